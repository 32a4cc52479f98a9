/- Part 6 of the proof of ClockTree: what the functions compute. No condition. -/
import Derived.Test.YtcjdhajdoikojaaDrClockTree5
import Derived.Test.YtcjdhajdoikojaaDrClockTree1
section
/- The reading at which the offset becomes too wide, as the program finds it by halving. -/
namespace Go.Proofs.Ytcjdhajdoikojaa.Clk
open Go.RowKit Go.Shelf Go.Proofs.YtcjdhajdoikojaaW.PrintWords Go.Proofs.YtcjdhajdoikojaaW.PrintLast Go.Proofs.YtcjdhajdoikojaaW.PrintMore Go.Proofs.Ytcjdhajdoikojaa.Pr Go.Proofs.YtcjdhajdoikojaaW.Round
set_option linter.unusedVariables false
set_option linter.unusedSimpArgs false

/-- Is the offset wider than a limit? -/
def wideI (rate : Int) (ys : List S105) (limit t : Int) : Bool := decide (limit < wrap64 ((atI rate ys t).2 - (atI rate ys t).1))
/-- What the closure of Due reads. -/
def DueEnv (W : World) (b6 b8 b3 g : Nat) (par rate : Int) (ys : List S105) (last limit : Int) : Prop := Blk W b6 #[.pointer (some ⟨g, 0, none⟩)] 99 ∧ Blk W b8 #[.int .i64 last] 2 ∧ Blk W b3 #[.int .i64 limit] 2 ∧ FaceAt W g par rate ys
theorem DueEnv.below {W W1 : World} {b6 b8 b3 g : Nat} {par rate : Int} {ys : List S105} {last limit : Int} (h : DueEnv W b6 b8 b3 g par rate ys last limit) (hb : Below W.heap.size W W1) : DueEnv W1 b6 b8 b3 g par rate ys last limit :=
  ⟨h.1.below hb, h.2.1.below hb, h.2.2.1.below hb, h.2.2.2.below hb⟩
set_option maxRecDepth 100000 in
set_option maxHeartbeats 2000000 in
theorem due2_any (b6 b8 b3 g : Nat) (par rate : Int) (ys : List S105) (hl : ys.length ≤ 1000) (last limit i : Int) (w : World) (h : DueEnv w b6 b8 b3 g par rate ys last limit) :
    Calls Try.prog 63 #[.int .i64 i, .pointer (some ⟨b6, 0, none⟩), .pointer (some ⟨b8, 0, none⟩), .pointer (some ⟨b3, 0, none⟩)] w (RetB (.bool (wideI rate ys limit (wrap64 (last + i)))) w) := by
  have hu35 := Try.underlying35
  obtain ⟨h6, h8, h3, hF⟩ := h
  have c6 := (blk_cell h6 0).trans rfl
  have c8 := (blk_cell h8 0).trans rfl
  have c3 := (blk_cell h3 0).trans rfl
  have HW : Hid (wideI rate ys limit (wrap64 (last + i)) = decide (limit < wrap64 ((atI rate ys (wrap64 (last + i))).2 - (atI rate ys (wrap64 (last + i))).1))) := Lib.hid rfl
  go_enter Try.func63, Try.ntmps63
  go_wp2_with fail
  have hcon := at_any g par rate ys hl (wrap64 (last + i)) w hF
  (with_reducible refine hcon.mono ?_)
  clear hcon
  rintro e W2 ⟨rfl, hb⟩
  have q3 : ∀ o_, (W2.alloc o_).cell? ⟨b3, 0, none⟩ = some (.int .i64 limit) := fun o_ => (blk_cell (blk_alloc (h3.below hb) o_) 0).trans rfl
  generalize atI rate ys (wrap64 (last + i)) = R at *
  obtain ⟨P1, P2⟩ := R
  dsimp only at HW ⊢
  go_wp2
  go_ret
  exact ⟨by rw [HW.out]; rfl, by repeat (first | exact hb | apply below_alloc | exact hb.size)⟩

/-- Halving. -/
def searchI (p : Int → Bool) : Nat → Int → Int → Int
  | 0, i, _ => i
  | f + 1, i, j => if i < j then (if p ((i + j) / 2) = true then searchI p f i ((i + j) / 2) else searchI p f ((i + j) / 2 + 1) j) else i
theorem searchI_end (p : Int → Bool) (f : Nat) (i : Int) : searchI p f i i = i := by
  cases f with
  | zero => rfl
  | succ f => rw [searchI, if_neg (by omega)]
set_option maxRecDepth 100000 in
set_option maxHeartbeats 4000000 in
theorem search_any (b6 b8 b3 g : Nat) (par rate : Int) (ys : List S105) (hl : ys.length ≤ 1000) (last limit n : Int) (w : World) (hn0 : 0 ≤ n) (hn1 : n ≤ 2251799813685248) (h : DueEnv w b6 b8 b3 g par rate ys last limit) :
    Calls Try.prog 62 #[.int .i64 n, .func (.func 63) #[] #[.pointer (some ⟨b6, 0, none⟩), .pointer (some ⟨b8, 0, none⟩), .pointer (some ⟨b3, 0, none⟩)]] w (RetB (.int .i64 (searchI (fun i => wideI rate ys limit (wrap64 (last + i))) n.toNat 0 n)) w) := by
  go_enter Try.func62, Try.ntmps62
  go_wp2
  go_loopw [5, 6] (fun vi vj wr => ∃ (i j : Int) (f : Nat), vi = .int .i64 i ∧ vj = .int .i64 j ∧ 0 ≤ i ∧ i ≤ j ∧ j ≤ n ∧ j - i ≤ (f : Int) ∧ Hid (searchI (fun i => wideI rate ys limit (wrap64 (last + i))) f i j = searchI (fun i => wideI rate ys limit (wrap64 (last + i))) n.toNat 0 n) ∧ Below w.heap.size w wr) (fun vi vj _ => (intOf vj - intOf vi).toNat)
  case atStart => exact ⟨0, n, n.toNat, rfl, rfl, by omega, by omega, by omega, by omega, Lib.hid rfl, Below.refl _ _⟩
  case round =>
    obtain ⟨i, j, f, rfl, rfl, hi, hij, hj, hf, HS, mB⟩ := hrel
    by_cases hlt : i < j
    · have w1 : wrap64 (i + j) = i + j := by unfold wrap64; omega
      have w2 : IntKind.wrap .u64 (i + j) = i + j := by unfold IntKind.wrap; simp [IntKind.bits, IntKind.signed]; omega
      have hq0 : 0 ≤ (i + j) / 2 := by omega
      have hq1 : (i + j) / 2 < j := by omega
      have hq2 : i ≤ (i + j) / 2 := by omega
      have hlt2 := eq_true hlt
      have hf1 : ∃ f1, f = f1 + 1 := ⟨f - 1, by omega⟩
      obtain ⟨f, rfl⟩ := hf1
      have hst : searchI (fun i => wideI rate ys limit (wrap64 (last + i))) (f + 1) i j = if wideI rate ys limit (wrap64 (last + (i + j) / 2)) = true then searchI (fun i => wideI rate ys limit (wrap64 (last + i))) f i ((i + j) / 2) else searchI (fun i => wideI rate ys limit (wrap64 (last + i))) f ((i + j) / 2 + 1) j := by rw [searchI, if_pos hlt]
      have HT := Lib.hid hst
      clear hst
      go_wp2_with fail
      have hcon := due2_any b6 b8 b3 g par rate ys hl last limit ((i + j) / 2) wr (h.below mB)
      (with_reducible refine hcon.mono ?_)
      clear hcon
      rintro e W2 ⟨rfl, hb⟩
      replace mB := below_step mB hb
      clear hb
      generalize hv : wideI rate ys limit (wrap64 (last + (i + j) / 2)) = v at HT ⊢
      clear hv
      have w3 : wrap64 ((i + j) / 2 + 1) = (i + j) / 2 + 1 := by unfold wrap64; omega
      cases v with
      | true =>
        have HT2 := Lib.hid (HT.out.symm.trans HS.out)
        rw [if_pos rfl] at HT2
        clear HT HS
        go_wp2
        go_roundw
        case rel => exact ⟨i, (i + j) / 2, f, rfl, rfl, by omega, by omega, by omega, by omega, HT2, mB⟩
        case measure => simp [intOf]; omega
      | false =>
        have HT2 := Lib.hid (HT.out.symm.trans HS.out)
        rw [if_neg (by decide)] at HT2
        clear HT HS
        go_wp2
        go_roundw
        case rel => exact ⟨(i + j) / 2 + 1, j, f, rfl, rfl, by omega, by omega, by omega, by omega, HT2, mB⟩
        case measure => simp [intOf]; omega
    · obtain rfl : i = j := by omega
      rw [searchI_end] at HS
      have hlt2 : (i < i) = False := eq_false (by omega)
      go_wp2
      go_ret
      exact ⟨by rw [← HS.out]; rfl, mB⟩

theorem searchI_range (p : Int → Bool) : ∀ (f : Nat) (i j : Int), i ≤ j → i ≤ searchI p f i j ∧ searchI p f i j ≤ j
  | 0, i, j, h => ⟨Int.le_refl _, h⟩
  | f + 1, i, j, h => by
    rw [searchI]
    by_cases h1 : i < j
    · rw [if_pos h1]
      by_cases h2 : p ((i + j) / 2) = true
      · rw [if_pos h2]
        have := searchI_range p f i ((i + j) / 2) (by omega)
        omega
      · rw [if_neg h2]
        have := searchI_range p f ((i + j) / 2 + 1) j (by omega)
        omega
    · rw [if_neg h1]
      omega
theorem FaceR.set {W : World} {g b t : Nat} {par rate : Int} {ys : List S105} {cells : Array Value} (h : FaceR W g par rate ys) (hb : W.heap[b]? = some (.cells cells t (0, 0))) (h1 : t ≠ 109) (h2 : t ≠ 105) (j : Nat) (u : Value) : FaceR (W.setCell ⟨b, j, none⟩ u) g par rate ys := by
  obtain ⟨v, base, k1, k2⟩ := h
  refine ⟨v, base, blk_far (p := ⟨b, j, none⟩) k1 (fun e => ?_) u, Kd.R_set k2 hb (fun q hq => by obtain rfl := List.mem_singleton.1 (show q ∈ [105] from hq); exact fun e => h2 e.symm) j u⟩
  have e' : g = b := e
  subst e'
  rw [show W.heap[g]? = _ from k1] at hb
  injection hb with hb
  injection hb with _ hb _
  exact h1 hb.symm
theorem SoundRes.set {W : World} {b t B : Nat} {par rate : Int} {xs : List S46} {between : Int} {ptr : Option Addr} {cells : Array Value} (h : SoundRes par rate xs between B ptr W) (hb : W.heap[b]? = some (.cells cells t (0, 0))) (h1 : t ≠ 109) (h2 : t ≠ 105) (j : Nat) (u : Value) : SoundRes par rate xs between B ptr (W.setCell ⟨b, j, none⟩ u) := by
  rcases h with ⟨h0, g, k1, k2, k3⟩ | h
  · exact .inl ⟨h0, g, k1, k2, k3.set hb h1 h2 j u⟩
  · exact .inr h
theorem SoundRes.weak {W : World} {B B' : Nat} {par rate : Int} {xs : List S46} {between : Int} {ptr : Option Addr} (h : SoundRes par rate xs between B' ptr W) (hB : B ≤ B') : SoundRes par rate xs between B ptr W := by
  rcases h with ⟨h0, g, k1, k2, k3⟩ | h
  · exact .inl ⟨h0, g, k1, Nat.le_trans hB k2, k3⟩
  · exact .inr h
theorem maxStep_mem (m x : S105) : maxStep m x = x ∨ maxStep m x = m := by
  unfold maxStep
  by_cases h : 0 < cmpI x m
  · exact .inl (if_pos h)
  · exact .inr (if_neg h)
theorem foldl_max_all (P : S105 → Prop) : ∀ (l : List S105) (m : S105), P m → (∀ x ∈ l, P x) → P (l.foldl maxStep m)
  | [], m, hm, _ => hm
  | x :: l, m, hm, hl => foldl_max_all P l _ (by
      rcases maxStep_mem m x with e | e
      · rw [e]; exact hl x List.mem_cons_self
      · rw [e]; exact hm) (fun y hy => hl y (List.mem_cons_of_mem _ hy))
theorem maxA_all (P : S105 → Prop) (ys : List S105) (h1 : 1 ≤ ys.length) (h : ∀ x ∈ ys, P x) : P (maxA ys) := by
  cases ys with
  | nil => simp at h1
  | cons a l => exact foldl_max_all P _ _ (h a List.mem_cons_self) (fun x hx => h x (List.mem_cons_of_mem _ hx))
theorem faceE_one {par rate : Int} {xs : List S46} (h : faceE par rate xs = 0) : 1 ≤ xs.length ∧ ∀ x ∈ xs, okE rate x = true := by
  unfold faceE at h
  by_cases hl : xs.length < 1 ∨ xs.length > 64
  · rw [if_pos hl] at h
    cases h
  rw [if_neg hl] at h
  by_cases hp : par < -1 ∨ rate < 0 ∨ rate > 1000000
  · rw [if_pos hp] at h
    cases h
  rw [if_neg hp] at h
  by_cases ha : xs.all (okE rate) = true
  · exact ⟨by omega, fun x hx => List.all_eq_true.1 ha x hx⟩
  · rw [if_neg ha] at h
    cases h
theorem soundE_face {par rate : Int} {xs : List S46} {between : Int} (h : soundE par rate xs between = 0) : faceE par rate xs = 0 := by
  unfold soundE at h
  by_cases h0 : faceE par rate xs = 0
  · exact h0
  · rw [if_pos h0] at h
    exact absurd h h0
theorem okE_back {rate : Int} {x : S46} (h : okE rate x = true) : 0 ≤ x.f3 ∧ x.f3 ≤ 1125899906842624 := by
  unfold okE okX okT at h
  simp only [Bool.and_eq_true, decide_eq_true_eq] at h
  omega
theorem last_range {par rate : Int} {xs : List S46} {between : Int} (h : soundE par rate xs between = 0) : 0 ≤ (maxA (xs.map (anchorI rate))).f1 ∧ (maxA (xs.map (anchorI rate))).f1 ≤ 1125899906842624 := by
  obtain ⟨h1, h2⟩ := faceE_one (soundE_face h)
  refine maxA_all (fun a => 0 ≤ a.f1 ∧ a.f1 ≤ 1125899906842624) _ (by rw [List.length_map]; exact h1) ?_
  intro a ha
  obtain ⟨x, hx, rfl⟩ := List.mem_map.1 ha
  exact okE_back (h2 x hx)

def lastI (rate : Int) (xs : List S46) : Int := (maxA (xs.map (anchorI rate))).f1
def dueN (rate : Int) (xs : List S46) (limit : Int) : Int := searchI (fun i => wideI rate (xs.map (anchorI rate)) limit (wrap64 (lastI rate xs + i))) (1125899906842624 - lastI rate xs + 1).toNat 0 (1125899906842624 - lastI rate xs + 1)
def dueI (par rate : Int) (xs : List S46) (limit : Int) : Int × Int :=
  if soundE par rate xs (withinI limit 0 1073741824) ≠ 0 then (0, soundE par rate xs (withinI limit 0 1073741824)) else if 1125899906842624 < lastI rate xs + dueN rate xs limit then (0, 15) else (lastI rate xs + dueN rate xs limit, 0)
set_option maxRecDepth 100000 in
set_option maxHeartbeats 8000000 in
theorem Due_any (par rate : Int) (A : Option Addr) (c : Nat) (xs : List S46) (limit : Int) (w : World) (hC : Kd.C k46 w A xs.length xs) (hc : xs.length ≤ c) :
    Calls Try.prog 25 #[.agg #[.int .i64 par, .int .i64 rate, .slice A xs.length c], .int .i64 limit] w (RetB (.tuple #[.int .i64 (dueI par rate xs limit).1, .int .i64 (dueI par rate xs limit).2]) w) := by
  have hu30 := Try.underlying30
  have hu109 := Try.underlying109
  have hu105 := Try.underlying105
  have hfd1 : ∀ (x0_ x1_ x2_ : Value) (W_ : World), (Instr.field 105 (.agg #[x0_, x1_, x2_]) 1).run Try.prog W_ = .ok (x2_) W_ := fun _ _ _ W_ => by kernel_rfl
  have HD : Hid (dueI par rate xs limit = if soundE par rate xs (withinI limit 0 1073741824) ≠ 0 then (0, soundE par rate xs (withinI limit 0 1073741824)) else if 1125899906842624 < lastI rate xs + dueN rate xs limit then (0, 15) else (lastI rate xs + dueN rate xs limit, 0)) := Lib.hid rfl
  go_enter Try.func25, Try.ntmps25
  go_wp2_with fail
  have m2 : Blk ((w.alloc (.cells #[.int .i64 par, .int .i64 rate, .slice A xs.length c] 30)).alloc (.cells #[.int .i64 limit] 2)) (w.heap.size) #[.int .i64 par, .int .i64 rate, .slice A xs.length c] 30 := (blk_alloc (by have h_ := blk_new w (.cells #[.int .i64 par, .int .i64 rate, .slice A xs.length c] 30); first | exact h_ | (simp only [World.size_alloc] at h_; exact h_)) _)
  have m3 : Blk ((w.alloc (.cells #[.int .i64 par, .int .i64 rate, .slice A xs.length c] 30)).alloc (.cells #[.int .i64 limit] 2)) (w.heap.size + 1) #[.int .i64 limit] 2 := (by have h_ := blk_new (w.alloc (.cells #[.int .i64 par, .int .i64 rate, .slice A xs.length c] 30)) (.cells #[.int .i64 limit] 2); first | exact h_ | (simp only [World.size_alloc] at h_; exact h_))
  have mB : Below w.heap.size w ((w.alloc (.cells #[.int .i64 par, .int .i64 rate, .slice A xs.length c] 30)).alloc (.cells #[.int .i64 limit] 2)) := (below_alloc (below_alloc (Below.refl w.heap.size w) _) _)
  have hsz_ : w.heap.size ≤ w.heap.size := Nat.le_refl _
  generalize hW_ : ((w.alloc (.cells #[.int .i64 par, .int .i64 rate, .slice A xs.length c] 30)).alloc (.cells #[.int .i64 limit] 2)) = W1 at m2 m3 mB ⊢
  clear hW_
  generalize hg2 : w.heap.size = g2 at m2 m3 ⊢
  have hG2 : w.heap.size ≤ g2 := by omega
  generalize hg3 : g2 + 1 = g3 at m3 ⊢
  have hn_2_3 : g2 ≠ g3 := by omega
  have hn_3_2 : g3 ≠ g2 := hn_2_3.symm
  have hG3 : w.heap.size ≤ g3 := by omega
  clear hsz_
  try clear hg3
  try clear hg2
  have hs_W1 : w.heap.size ≤ W1.heap.size := mB.size
  replace m2 := blk_drew m2
  replace m3 := blk_drew m3
  replace mB := below_drew1 mB
  refine start_ (n := 10) (S := fun w' => w'.cell? ⟨g2, 0, none⟩ = some (.int .i64 par) ∧ w'.cell? ⟨g2, 1, none⟩ = some (.int .i64 rate) ∧ w'.cell? ⟨g2, 2, none⟩ = some (.slice A xs.length c) ∧ w'.cell? ⟨g3, 0, none⟩ = some (.int .i64 limit)) (ds := []) #[false, false, false, false, false, false, false, false, false, false] (by kernel_rfl) rfl rfl ⟨((blk_cell m2 0).trans rfl), ((blk_cell m2 1).trans rfl), ((blk_cell m2 2).trans rfl), ((blk_cell m3 0).trans rfl)⟩ (fun hHeld => ?_)
  generalize hWd : World.drew _ = Wx at *
  clear hWd
  refine take_ (i := 0) (N := some 11) (v := ?_) (a' := ?_) #[true, false, false, false, false, false, false, false, false, false] rfl rfl (by kernel_rfl) (fun _ _ _ h => h) (Or.inl ⟨by rfl, ?_⟩) hHeld ?_ ?_
  rotate_left
  · rintro w' ⟨s0, s1, s2, s3⟩
    go_simp
    with_reducible rfl
  rotate_left
  · simp only [Act.put, List.setIfInBounds_toArray, List.set_cons_zero, List.set_cons_succ, i64_w, i32_w]
    rfl
  refine take_ (i := 1) (N := some 12) (v := ?_) (a' := ?_) #[true, true, false, false, false, false, false, false, false, false] rfl rfl (by kernel_rfl) (fun _ _ _ h => h) (Or.inl ⟨by rfl, ?_⟩) hHeld ?_ ?_
  rotate_left
  · rintro w' ⟨s0, s1, s2, s3⟩
    go_simp
    with_reducible rfl
  rotate_left
  · simp only [Act.put, List.setIfInBounds_toArray, List.set_cons_zero, List.set_cons_succ, i64_w, i32_w]
    rfl
  refine join_ (σ := Nat × (Option Addr)) 2 #[true, true, true, true, true, true, true, true, false, false] (fun s => [(13, .int .i64 (withinI limit 0 1073741824)), (14, .tuple #[.pointer s.2, .int .i64 (soundE par rate xs (withinI limit 0 1073741824))]), (10, .tuple #[.pointer s.2, .int .i64 (soundE par rate xs (withinI limit 0 1073741824))]), (15, .pointer s.2), (16, .int .i64 (soundE par rate xs (withinI limit 0 1073741824))), (6, .pointer (some ⟨s.1, 0, none⟩))]) (fun s w' => Blk w' g2 #[.int .i64 par, .int .i64 rate, .slice A xs.length c] 30 ∧ Blk w' g3 #[.int .i64 limit] 2 ∧ Blk w' (s.1) #[.pointer none] 99 ∧ Below w.heap.size w w' ∧ w.heap.size ≤ s.1 ∧ g2 ≠ s.1 ∧ g3 ≠ s.1 ∧ SoundRes par rate xs (withinI limit 0 1073741824) w.heap.size (s.2) w') ?_ ?_
  rotate_left
  · intro hCont
    refine two_ (i := 2) (j := 7) (Ni := some 13) (Nj := some 6) #[true, true, true, false, false, false, false, false, false, false] #[true, true, false, false, false, false, false, true, false, false] rfl rfl rfl rfl (by kernel_rfl) (by decide) (by decide) (fun K hK => ?_) (fun K hK => ?_)
    · skip
      have hcon_ := within_any limit 0 1073741824 Wx
      refine goes_ Try.func57 (by kernel_rfl) rfl #[.int .i64 limit, .int .i64 0, .int .i64 1073741824] (by rfl) rfl rfl (by simp only [List.map_toArray, List.map_cons, List.map_nil]; rfl) ?_
      with_reducible refine (hcon_).mono ?_
      rintro e w2 ⟨rfl, hb⟩
      refine ⟨_, rfl, ?_⟩
      clear hcon_
      replace m2 := blk_below m2 hb
      replace m3 := blk_below m3 hb
      replace mB := below_step mB hb
      clear hb
      refine hK.out _ _ ⟨((blk_cell m2 0).trans rfl), ((blk_cell m2 1).trans rfl), ((blk_cell m2 2).trans rfl), ((blk_cell m3 0).trans rfl)⟩ (fun hHeld => ?_)
      clear hK K
      refine norm_ (a' := ?_) ?_ ?_
      rotate_left
      · show Act.put _ (some 13) _ = _
        simp only [Act.put, List.setIfInBounds_toArray, List.set_cons_zero, List.set_cons_succ, i64_w, i32_w]
        rfl
      refine two_ (i := 3) (j := 7) (Ni := some 14) (Nj := some 6) #[true, true, true, true, false, false, false, false, false, false] #[true, true, true, false, false, false, false, true, false, false] rfl rfl rfl rfl (by kernel_rfl) (by decide) (by decide) (fun K hK => ?_) (fun K hK => ?_)
      · skip
        have hcon_ := newSound_any par rate A c xs (withinI limit 0 1073741824) w2 (Kd.C_below hC mB) hc
        refine goes_ Try.func56 (by kernel_rfl) rfl #[.agg #[.int .i64 par, .int .i64 rate, .slice A xs.length c], .int .i64 (withinI limit 0 1073741824)] (by rfl) rfl rfl (by simp only [List.map_toArray, List.map_cons, List.map_nil]; rfl) ?_
        with_reducible refine (hcon_).mono ?_
        rintro e w3 ⟨ptr, rfl, hb, hcase⟩
        refine ⟨_, rfl, ?_⟩
        clear hcon_
        replace hcase : SoundRes par rate xs (withinI limit 0 1073741824) w.heap.size ptr w3 := SoundRes.weak hcase mB.size
        replace m2 := blk_below m2 hb
        replace m3 := blk_below m3 hb
        replace mB := below_step mB hb
        clear hb
        refine hK.out _ _ ⟨((blk_cell m2 0).trans rfl), ((blk_cell m2 1).trans rfl), ((blk_cell m2 2).trans rfl), ((blk_cell m3 0).trans rfl)⟩ (fun hHeld => ?_)
        clear hK K
        refine norm_ (a' := ?_) ?_ ?_
        rotate_left
        · show Act.put _ (some 14) _ = _
          simp only [Act.put, List.setIfInBounds_toArray, List.set_cons_zero, List.set_cons_succ, i64_w, i32_w]
          rfl
        refine pure_ (i := 4) (N := some 10) (v := ?_) (a' := ?_) #[true, true, true, true, true, false, false, false, false, false] rfl rfl (by kernel_rfl) (fun _ _ _ h => h) (Or.inl ⟨by rfl, ?_⟩) ?_ ?_
        rotate_left
        · intro w'
          go_simp
          with_reducible rfl
        rotate_left
        · simp only [Act.put, List.setIfInBounds_toArray, List.set_cons_zero, List.set_cons_succ, i64_w, i32_w]
          rfl
        refine pure_ (i := 5) (N := some 15) (v := ?_) (a' := ?_) #[true, true, true, true, true, true, false, false, false, false] rfl rfl (by kernel_rfl) (fun _ _ _ h => h) (Or.inl ⟨by rfl, ?_⟩) ?_ ?_
        rotate_left
        · intro w'
          go_simp
          with_reducible rfl
        rotate_left
        · simp only [Act.put, List.setIfInBounds_toArray, List.set_cons_zero, List.set_cons_succ, i64_w, i32_w]
          rfl
        refine pure_ (i := 6) (N := some 16) (v := ?_) (a' := ?_) #[true, true, true, true, true, true, true, false, false, false] rfl rfl (by kernel_rfl) (fun _ _ _ h => h) (Or.inl ⟨by rfl, ?_⟩) ?_ ?_
        rotate_left
        · intro w'
          go_simp
          with_reducible rfl
        rotate_left
        · simp only [Act.put, List.setIfInBounds_toArray, List.set_cons_zero, List.set_cons_succ, i64_w, i32_w]
          rfl
        refine one_ (i := 7) (N := some 6) #[true, true, true, true, true, true, true, true, false, false] rfl rfl (by kernel_rfl) (by decide) (fun K hK => ?_)
        have hn_2_6 : g2 ≠ w3.heap.size := by have h_ := blk_lt m2; omega
        have hn_3_6 : g3 ≠ w3.heap.size := by have h_ := blk_lt m3; omega
        have hG6 : w.heap.size ≤ w3.heap.size := by have h_ := mB.size; omega
        replace hcase := hcase.below (below_alloc (Below.refl _ _) (.cells #[.pointer none] 99))
        replace m2 := blk_alloc m2 (.cells #[.pointer none] 99)
        replace m3 := blk_alloc m3 (.cells #[.pointer none] 99)
        have m6 : Blk (w3.alloc (.cells #[.pointer none] 99)) (w3.heap.size) #[.pointer none] 99 := by have h_ := blk_new w3 (.cells #[.pointer none] 99); first | exact h_ | (simp only [World.size_alloc] at h_; exact h_)
        replace mB := below_alloc mB (.cells #[.pointer none] 99)
        refine value_ (w1 := ?_) (v := ?_) (by rfl) rfl ?_ ?_
        rotate_left 2
        · go_simp
          constructor
          · rfl
          · rfl
        refine hK.out _ _ ⟨((blk_cell m2 0).trans rfl), ((blk_cell m2 1).trans rfl), ((blk_cell m2 2).trans rfl), ((blk_cell m3 0).trans rfl)⟩ (fun hHeld => ?_)
        clear hK K
        refine norm_ (a' := ?_) ?_ ?_
        rotate_left
        · show Act.put _ (some 6) _ = _
          simp only [Act.put, List.setIfInBounds_toArray, List.set_cons_zero, List.set_cons_succ, i64_w, i32_w]
          rfl
        exact norm_ (by first | (simp only [putAll, Act.put, List.setIfInBounds_toArray, List.set_cons_zero, List.set_cons_succ]; done) | (simp only [putAll, Act.put, List.setIfInBounds_toArray, List.set_cons_zero, List.set_cons_succ]; rfl)) (hCont ((w3.heap.size, ptr)) _ ⟨m2, m3, m6, mB, hG6, hn_2_6, hn_3_6, hcase⟩)
      · skip
        have hn_2_6 : g2 ≠ w2.heap.size := by have h_ := blk_lt m2; omega
        have hn_3_6 : g3 ≠ w2.heap.size := by have h_ := blk_lt m3; omega
        have hG6 : w.heap.size ≤ w2.heap.size := by have h_ := mB.size; omega
        replace m2 := blk_alloc m2 (.cells #[.pointer none] 99)
        replace m3 := blk_alloc m3 (.cells #[.pointer none] 99)
        have m6 : Blk (w2.alloc (.cells #[.pointer none] 99)) (w2.heap.size) #[.pointer none] 99 := by have h_ := blk_new w2 (.cells #[.pointer none] 99); first | exact h_ | (simp only [World.size_alloc] at h_; exact h_)
        replace mB := below_alloc mB (.cells #[.pointer none] 99)
        refine value_ (w1 := ?_) (v := ?_) (by rfl) rfl ?_ ?_
        rotate_left 2
        · go_simp
          constructor
          · rfl
          · rfl
        refine hK.out _ _ ⟨((blk_cell m2 0).trans rfl), ((blk_cell m2 1).trans rfl), ((blk_cell m2 2).trans rfl), ((blk_cell m3 0).trans rfl)⟩ (fun hHeld => ?_)
        clear hK K
        refine norm_ (a' := ?_) ?_ ?_
        rotate_left
        · show Act.put _ (some 6) _ = _
          simp only [Act.put, List.setIfInBounds_toArray, List.set_cons_zero, List.set_cons_succ, i64_w, i32_w]
          rfl
        refine one_ (i := 3) (N := some 14) #[true, true, true, true, false, false, false, true, false, false] rfl rfl (by kernel_rfl) (by decide) (fun K hK => ?_)
        have hcon_ := newSound_any par rate A c xs (withinI limit 0 1073741824) (w2.alloc (.cells #[.pointer none] 99)) (Kd.C_below hC mB) hc
        refine goes_ Try.func56 (by kernel_rfl) rfl #[.agg #[.int .i64 par, .int .i64 rate, .slice A xs.length c], .int .i64 (withinI limit 0 1073741824)] (by rfl) rfl rfl (by simp only [List.map_toArray, List.map_cons, List.map_nil]; rfl) ?_
        with_reducible refine (hcon_).mono ?_
        rintro e w3 ⟨ptr, rfl, hb, hcase⟩
        refine ⟨_, rfl, ?_⟩
        clear hcon_
        replace hcase : SoundRes par rate xs (withinI limit 0 1073741824) w.heap.size ptr w3 := SoundRes.weak hcase mB.size
        replace m2 := blk_below m2 hb
        replace m3 := blk_below m3 hb
        replace m6 := blk_below m6 hb
        replace mB := below_step mB hb
        clear hb
        refine hK.out _ _ ⟨((blk_cell m2 0).trans rfl), ((blk_cell m2 1).trans rfl), ((blk_cell m2 2).trans rfl), ((blk_cell m3 0).trans rfl)⟩ (fun hHeld => ?_)
        clear hK K
        refine norm_ (a' := ?_) ?_ ?_
        rotate_left
        · show Act.put _ (some 14) _ = _
          simp only [Act.put, List.setIfInBounds_toArray, List.set_cons_zero, List.set_cons_succ, i64_w, i32_w]
          rfl
        refine pure_ (i := 4) (N := some 10) (v := ?_) (a' := ?_) #[true, true, true, true, true, false, false, true, false, false] rfl rfl (by kernel_rfl) (fun _ _ _ h => h) (Or.inl ⟨by rfl, ?_⟩) ?_ ?_
        rotate_left
        · intro w'
          go_simp
          with_reducible rfl
        rotate_left
        · simp only [Act.put, List.setIfInBounds_toArray, List.set_cons_zero, List.set_cons_succ, i64_w, i32_w]
          rfl
        refine pure_ (i := 5) (N := some 15) (v := ?_) (a' := ?_) #[true, true, true, true, true, true, false, true, false, false] rfl rfl (by kernel_rfl) (fun _ _ _ h => h) (Or.inl ⟨by rfl, ?_⟩) ?_ ?_
        rotate_left
        · intro w'
          go_simp
          with_reducible rfl
        rotate_left
        · simp only [Act.put, List.setIfInBounds_toArray, List.set_cons_zero, List.set_cons_succ, i64_w, i32_w]
          rfl
        refine pure_ (i := 6) (N := some 16) (v := ?_) (a' := ?_) #[true, true, true, true, true, true, true, true, false, false] rfl rfl (by kernel_rfl) (fun _ _ _ h => h) (Or.inl ⟨by rfl, ?_⟩) ?_ ?_
        rotate_left
        · intro w'
          go_simp
          with_reducible rfl
        rotate_left
        · simp only [Act.put, List.setIfInBounds_toArray, List.set_cons_zero, List.set_cons_succ, i64_w, i32_w]
          rfl
        exact norm_ (by first | (simp only [putAll, Act.put, List.setIfInBounds_toArray, List.set_cons_zero, List.set_cons_succ]; done) | (simp only [putAll, Act.put, List.setIfInBounds_toArray, List.set_cons_zero, List.set_cons_succ]; rfl)) (hCont ((w2.heap.size, ptr)) _ ⟨m2, m3, m6, mB, hG6, hn_2_6, hn_3_6, hcase⟩)
    · skip
      have hn_2_6 : g2 ≠ Wx.heap.size := by have h_ := blk_lt m2; omega
      have hn_3_6 : g3 ≠ Wx.heap.size := by have h_ := blk_lt m3; omega
      have hG6 : w.heap.size ≤ Wx.heap.size := by have h_ := mB.size; omega
      replace m2 := blk_alloc m2 (.cells #[.pointer none] 99)
      replace m3 := blk_alloc m3 (.cells #[.pointer none] 99)
      have m6 : Blk (Wx.alloc (.cells #[.pointer none] 99)) (Wx.heap.size) #[.pointer none] 99 := by have h_ := blk_new Wx (.cells #[.pointer none] 99); first | exact h_ | (simp only [World.size_alloc] at h_; exact h_)
      replace mB := below_alloc mB (.cells #[.pointer none] 99)
      refine value_ (w1 := ?_) (v := ?_) (by rfl) rfl ?_ ?_
      rotate_left 2
      · go_simp
        constructor
        · rfl
        · rfl
      refine hK.out _ _ ⟨((blk_cell m2 0).trans rfl), ((blk_cell m2 1).trans rfl), ((blk_cell m2 2).trans rfl), ((blk_cell m3 0).trans rfl)⟩ (fun hHeld => ?_)
      clear hK K
      refine norm_ (a' := ?_) ?_ ?_
      rotate_left
      · show Act.put _ (some 6) _ = _
        simp only [Act.put, List.setIfInBounds_toArray, List.set_cons_zero, List.set_cons_succ, i64_w, i32_w]
        rfl
      refine one_ (i := 2) (N := some 13) #[true, true, true, false, false, false, false, true, false, false] rfl rfl (by kernel_rfl) (by decide) (fun K hK => ?_)
      have hcon_ := within_any limit 0 1073741824 (Wx.alloc (.cells #[.pointer none] 99))
      refine goes_ Try.func57 (by kernel_rfl) rfl #[.int .i64 limit, .int .i64 0, .int .i64 1073741824] (by rfl) rfl rfl (by simp only [List.map_toArray, List.map_cons, List.map_nil]; rfl) ?_
      with_reducible refine (hcon_).mono ?_
      rintro e w2 ⟨rfl, hb⟩
      refine ⟨_, rfl, ?_⟩
      clear hcon_
      replace m2 := blk_below m2 hb
      replace m3 := blk_below m3 hb
      replace m6 := blk_below m6 hb
      replace mB := below_step mB hb
      clear hb
      refine hK.out _ _ ⟨((blk_cell m2 0).trans rfl), ((blk_cell m2 1).trans rfl), ((blk_cell m2 2).trans rfl), ((blk_cell m3 0).trans rfl)⟩ (fun hHeld => ?_)
      clear hK K
      refine norm_ (a' := ?_) ?_ ?_
      rotate_left
      · show Act.put _ (some 13) _ = _
        simp only [Act.put, List.setIfInBounds_toArray, List.set_cons_zero, List.set_cons_succ, i64_w, i32_w]
        rfl
      refine one_ (i := 3) (N := some 14) #[true, true, true, true, false, false, false, true, false, false] rfl rfl (by kernel_rfl) (by decide) (fun K hK => ?_)
      have hcon_ := newSound_any par rate A c xs (withinI limit 0 1073741824) w2 (Kd.C_below hC mB) hc
      refine goes_ Try.func56 (by kernel_rfl) rfl #[.agg #[.int .i64 par, .int .i64 rate, .slice A xs.length c], .int .i64 (withinI limit 0 1073741824)] (by rfl) rfl rfl (by simp only [List.map_toArray, List.map_cons, List.map_nil]; rfl) ?_
      with_reducible refine (hcon_).mono ?_
      rintro e w3 ⟨ptr, rfl, hb, hcase⟩
      refine ⟨_, rfl, ?_⟩
      clear hcon_
      replace hcase : SoundRes par rate xs (withinI limit 0 1073741824) w.heap.size ptr w3 := SoundRes.weak hcase mB.size
      replace m2 := blk_below m2 hb
      replace m3 := blk_below m3 hb
      replace m6 := blk_below m6 hb
      replace mB := below_step mB hb
      clear hb
      refine hK.out _ _ ⟨((blk_cell m2 0).trans rfl), ((blk_cell m2 1).trans rfl), ((blk_cell m2 2).trans rfl), ((blk_cell m3 0).trans rfl)⟩ (fun hHeld => ?_)
      clear hK K
      refine norm_ (a' := ?_) ?_ ?_
      rotate_left
      · show Act.put _ (some 14) _ = _
        simp only [Act.put, List.setIfInBounds_toArray, List.set_cons_zero, List.set_cons_succ, i64_w, i32_w]
        rfl
      refine pure_ (i := 4) (N := some 10) (v := ?_) (a' := ?_) #[true, true, true, true, true, false, false, true, false, false] rfl rfl (by kernel_rfl) (fun _ _ _ h => h) (Or.inl ⟨by rfl, ?_⟩) ?_ ?_
      rotate_left
      · intro w'
        go_simp
        with_reducible rfl
      rotate_left
      · simp only [Act.put, List.setIfInBounds_toArray, List.set_cons_zero, List.set_cons_succ, i64_w, i32_w]
        rfl
      refine pure_ (i := 5) (N := some 15) (v := ?_) (a' := ?_) #[true, true, true, true, true, true, false, true, false, false] rfl rfl (by kernel_rfl) (fun _ _ _ h => h) (Or.inl ⟨by rfl, ?_⟩) ?_ ?_
      rotate_left
      · intro w'
        go_simp
        with_reducible rfl
      rotate_left
      · simp only [Act.put, List.setIfInBounds_toArray, List.set_cons_zero, List.set_cons_succ, i64_w, i32_w]
        rfl
      refine pure_ (i := 6) (N := some 16) (v := ?_) (a' := ?_) #[true, true, true, true, true, true, true, true, false, false] rfl rfl (by kernel_rfl) (fun _ _ _ h => h) (Or.inl ⟨by rfl, ?_⟩) ?_ ?_
      rotate_left
      · intro w'
        go_simp
        with_reducible rfl
      rotate_left
      · simp only [Act.put, List.setIfInBounds_toArray, List.set_cons_zero, List.set_cons_succ, i64_w, i32_w]
        rfl
      exact norm_ (by first | (simp only [putAll, Act.put, List.setIfInBounds_toArray, List.set_cons_zero, List.set_cons_succ]; done) | (simp only [putAll, Act.put, List.setIfInBounds_toArray, List.set_cons_zero, List.set_cons_succ]; rfl)) (hCont ((Wx.heap.size, ptr)) _ ⟨m2, m3, m6, mB, hG6, hn_2_6, hn_3_6, hcase⟩)
  rintro ⟨g6, ptr⟩ Wg ⟨m2, m3, m6, mB, hG6, hn_2_6, hn_3_6, hcase⟩
  dsimp only at m2 m3 m6 mB hG6 hn_2_6 hn_3_6 hcase
  have hHeld : (Wg.cell? ⟨g2, 0, none⟩ = some (.int .i64 par) ∧ Wg.cell? ⟨g2, 1, none⟩ = some (.int .i64 rate) ∧ Wg.cell? ⟨g2, 2, none⟩ = some (.slice A xs.length c) ∧ Wg.cell? ⟨g3, 0, none⟩ = some (.int .i64 limit)) := ⟨((blk_cell m2 0).trans rfl), ((blk_cell m2 1).trans rfl), ((blk_cell m2 2).trans rfl), ((blk_cell m3 0).trans rfl)⟩
  refine norm_ (a' := ?_) ?_ ?_
  rotate_left
  · simp only [putAll, Act.put, List.setIfInBounds_toArray, List.set_cons_zero, List.set_cons_succ]
    rfl
  refine one_ (i := 8) (N := none) #[true, true, true, true, true, true, true, true, true, false] rfl rfl (by kernel_rfl) (by decide) (fun K hK => ?_)
  have hcs_ := SoundRes.set hcase m6 (by decide) (by decide) 0 (.pointer ptr)
  have hf0_ := blk_frozen m6 0
  have hc0_ := (blk_cell m6 0).trans rfl
  refine skip_ (w1 := ?_) (by rfl) rfl ?_ ?_
  rotate_left
  · go_simp
    rfl
  clear hf0_ hc0_
  replace m2 : Blk (Wg.setCell ⟨g6, 0, none⟩ (.pointer ptr)) g2 #[.int .i64 par, .int .i64 rate, .slice A xs.length c] 30 := blk_far (p := ⟨g6, 0, none⟩) m2 hn_2_6 _
  replace m3 : Blk (Wg.setCell ⟨g6, 0, none⟩ (.pointer ptr)) g3 #[.int .i64 limit] 2 := blk_far (p := ⟨g6, 0, none⟩) m3 hn_3_6 _
  replace m6 : Blk (Wg.setCell ⟨g6, 0, none⟩ (.pointer ptr)) g6 #[.pointer ptr] 99 := blk_put m6 0 _ rfl
  replace mB : Below w.heap.size w (Wg.setCell ⟨g6, 0, none⟩ (.pointer ptr)) := mB.setCell (p := ⟨g6, 0, none⟩) hG6 _
  replace hcase := hcs_
  clear hcs_
  refine hK.out _ _ ⟨((blk_cell m2 0).trans rfl), ((blk_cell m2 1).trans rfl), ((blk_cell m2 2).trans rfl), ((blk_cell m3 0).trans rfl)⟩ (fun hHeld => ?_)
  clear hK K
  refine pure_ (i := 9) (N := some 7) (v := ?_) (a' := ?_) #[true, true, true, true, true, true, true, true, true, true] rfl rfl (by kernel_rfl) (fun _ _ _ h => h) (Or.inl ⟨by rfl, ?_⟩) ?_ ?_
  rotate_left
  · intro w'
    go_simp
    with_reducible rfl
  rotate_left
  · simp only [Act.put, List.setIfInBounds_toArray, List.set_cons_zero, List.set_cons_succ, i64_w, i32_w]
    rfl
  refine done_ (by kernel_rfl) ?_
  try clear hHeld
  generalize hW_ : (Wg.setCell ⟨g6, 0, none⟩ (.pointer ptr)) = W4 at m2 m3 m6 mB hcase ⊢
  clear hW_
  have hlr := fun h => last_range (par := par) (rate := rate) (xs := xs) (between := withinI limit 0 1073741824) h
  have hfo := fun h => faceE_one (soundE_face (par := par) (rate := rate) (xs := xs) (between := withinI limit 0 1073741824) h)
  have hln := fun h => soundE_len (par := par) (rate := rate) (xs := xs) (between := withinI limit 0 1073741824) h
  unfold SoundRes at hcase
  generalize soundE par rate xs (withinI limit 0 1073741824) = E0 at *
  rcases hcase with ⟨h0, g, rfl, hg, hF⟩ | ⟨h0, rfl⟩
  case inr =>
    have HE := Lib.hid (HD.out.trans (if_pos h0))
    have hd : (E0 == 0) = false := beq_eq_false_iff_ne.2 h0
    have hd2 : (E0 != 0) = true := by rw [bne, hd]; rfl
    clear h0 hlr hfo hln HD
    go_wp2
    go_ret2
    exact ⟨by rw [HE.out]; rfl, mB⟩
  case inl =>
    have HE1 := Lib.hid (HD.out.trans (if_neg (by rw [h0]; decide)))
    clear HD
    obtain ⟨hl1, _⟩ := hfo h0
    have hl64 := hln h0
    have hlast0 : 0 ≤ lastI rate xs ∧ lastI rate xs ≤ 1125899906842624 := hlr h0
    clear hfo hln hlr
    subst h0
    have hN : dueN rate xs limit = searchI (fun i => wideI rate (xs.map (anchorI rate)) limit (wrap64 (lastI rate xs + i))) (1125899906842624 - lastI rate xs + 1).toNat 0 (1125899906842624 - lastI rate xs + 1) := rfl
    have HN := Lib.hid hN
    clear hN
    have hLI : (maxA (xs.map (anchorI rate))).f1 = lastI rate xs := rfl
    have HLI := Lib.hid hLI
    clear hLI
    have hyl : (xs.map (anchorI rate)).length ≤ 1000 := by rw [List.length_map]; omega
    have hyl1 : 1 ≤ (xs.map (anchorI rate)).length := by rw [List.length_map]; omega
    generalize dueN rate xs limit = n at HN HE1
    generalize lastI rate xs = last at *
    generalize xs.map (anchorI rate) = ys at *
    obtain ⟨hlo, hhi⟩ := hlast0
    have hFA := hF.at
    obtain ⟨Af, cf, mf, hlc, hCf⟩ := hFA
    have cf2 := (blk_cell mf 2).trans rfl
    have c6 := (blk_cell m6 0).trans rfl
    go_wp2_with fail
    have hcon := maxF_any Af cf ys W4 hCf hyl hyl1
    (with_reducible refine hcon.mono ?_)
    clear hcon cf2 c6
    rintro e W5 ⟨rfl, hb⟩
    replace hF := hF.below hb
    replace m2 := blk_below m2 hb
    replace m3 := blk_below m3 hb
    replace m6 := blk_below m6 hb
    replace mB := below_step mB hb
    clear hb
    have hs_W5 : w.heap.size ≤ W5.heap.size := mB.size
    clear mf hCf
    have HR := HLI.out
    generalize maxA ys = M at *
    obtain ⟨M0, M1⟩ := M
    dsimp only at HR ⊢
    subst HR
    have w1 : wrap64 (1125899906842624 - M1) = 1125899906842624 - M1 := by unfold wrap64; omega
    have w2 : wrap64 (1125899906842624 - M1 + 1) = 1125899906842624 - M1 + 1 := by unfold wrap64; omega
    go_wp2_with fail
    replace hF := hF.below (below_alloc (Below.refl W5.heap.size W5) (.cells #[.int .i64 M1] 2))
    have hl_2 := blk_lt m2
    have hl_3 := blk_lt m3
    have hl_6 := blk_lt m6
    have m8 : Blk (W5.alloc (.cells #[.int .i64 M1] 2)) (W5.heap.size) #[.int .i64 M1] 2 := (by have h_ := blk_new W5 (.cells #[.int .i64 M1] 2); first | exact h_ | (simp only [World.size_alloc] at h_; exact h_))
    replace m2 : Blk (W5.alloc (.cells #[.int .i64 M1] 2)) g2 #[.int .i64 par, .int .i64 rate, .slice A xs.length c] 30 := (blk_alloc m2 _)
    replace m3 : Blk (W5.alloc (.cells #[.int .i64 M1] 2)) g3 #[.int .i64 limit] 2 := (blk_alloc m3 _)
    replace m6 : Blk (W5.alloc (.cells #[.int .i64 M1] 2)) g6 #[.pointer (some ⟨g, 0, none⟩)] 99 := (blk_alloc m6 _)
    replace mB : Below w.heap.size w (W5.alloc (.cells #[.int .i64 M1] 2)) := (below_alloc mB _)
    have hsz_ : w.heap.size ≤ W5.heap.size := hs_W5
    generalize hW_ : (W5.alloc (.cells #[.int .i64 M1] 2)) = W6 at m2 m3 m6 m8 mB hF ⊢
    clear hW_
    generalize hg8 : W5.heap.size = g8 at m8 ⊢
    have hn_2_8 : g2 ≠ g8 := by omega
    have hn_3_8 : g3 ≠ g8 := by omega
    have hn_6_8 : g6 ≠ g8 := by omega
    have hn_8_2 : g8 ≠ g2 := hn_2_8.symm
    have hn_8_3 : g8 ≠ g3 := hn_3_8.symm
    have hn_8_6 : g8 ≠ g6 := hn_6_8.symm
    have hG8 : w.heap.size ≤ g8 := by omega
    clear hsz_ hl_2 hl_3 hl_6
    try clear hg8
    have hs_W6 : w.heap.size ≤ W6.heap.size := mB.size
    have hcon := search_any g6 g8 g3 g par rate ys hyl M1 limit (1125899906842624 - M1 + 1) W6 (by omega) (by omega) ⟨m6, m8, m3, hF.at⟩
    (with_reducible refine hcon.mono ?_)
    clear hcon
    rintro e W7 ⟨rfl, hb⟩
    replace m2 := blk_below m2 hb
    replace m3 := blk_below m3 hb
    replace m6 := blk_below m6 hb
    replace m8 := blk_below m8 hb
    replace mB := below_step mB hb
    clear hb
    have hs_W7 : w.heap.size ≤ W7.heap.size := mB.size
    have hrg := searchI_range (fun i => wideI rate ys limit (wrap64 (M1 + i))) (1125899906842624 - M1 + 1).toNat 0 (1125899906842624 - M1 + 1) (by omega)
    rw [← HN.out] at hrg ⊢
    clear HN
    have c8 := (blk_cell m8 0).trans rfl
    have w3 : wrap64 (M1 + n) = M1 + n := by unfold wrap64; omega
    by_cases hq : 1125899906842624 < M1 + n
    case pos =>
      have HE2 := Lib.hid (HE1.out.trans (if_pos hq))
      have dq := decide_eq_true hq
      have dq2 := eq_true hq
      clear HE1
      go_wp2
      go_ret2
      exact ⟨by rw [HE2.out]; rfl, mB⟩
    case neg =>
      have HE2 := Lib.hid (HE1.out.trans (if_neg hq))
      have dq := decide_eq_false hq
      have dq2 := eq_false hq
      clear HE1
      go_wp2
      go_ret2
      exact ⟨by rw [HE2.out]; rfl, mB⟩
end Go.Proofs.Ytcjdhajdoikojaa.Clk
end
section
/- The contracts of the clock's exported functions, as the printed texts ask for them. -/
namespace Go.Proofs.Ytcjdhajdoikojaa.Pr
open Go.RowKit Go.Proofs.YtcjdhajdoikojaaW.PrintWords Go.Proofs.YtcjdhajdoikojaaW.PrintLast Go.Proofs.YtcjdhajdoikojaaW.PrintMore Go.Proofs.Ytcjdhajdoikojaa.Clk
set_option linter.unusedVariables false

def clock_Time.f (l0 : List (S30)) (a1_0 : Int) (a1_1 : Int) : Option (Int × Int × Int) := some ((TimeV l0 a1_0 a1_1).1, (TimeV l0 a1_0 a1_1).2, TimeE l0 a1_0 a1_1)
theorem clock_Time.calls (A0 : Option Addr) (c0 : Nat) (l0 : List (S30)) (a1_0 : Int) (a1_1 : Int) (r1 : Int) (r2 : Int) (r3 : Int) (w : World) (hr0 : Kd.C k30 w A0 l0.length l0) (hc0 : l0.length ≤ c0) (h : clock_Time.f l0 a1_0 a1_1 = some (r1, r2, r3)) :
    Calls Try.prog 17 #[.slice A0 l0.length c0, .agg #[.int .i64 a1_0, .int .i64 a1_1]] w fun e w' => e = .returned (.tuple #[.agg #[.int .i64 r1, .int .i64 r2], .int .i64 r3]) ∧ Below w.heap.size w w' := by
  cases h
  exact Time_any A0 c0 l0 a1_0 a1_1 w hr0 hc0

def clock_At.f (a0_0 : Int) (a0_1 : Int) (l0_2 : List (S46)) (a1 : Int) : Option (Int × Int × Int) := some ((atV a0_0 a0_1 l0_2 a1).1, (atV a0_0 a0_1 l0_2 a1).2, atE a0_0 a0_1 l0_2 a1)
theorem clock_At.calls (a0_0 : Int) (a0_1 : Int) (A0_2 : Option Addr) (c0_2 : Nat) (l0_2 : List (S46)) (a1 : Int) (r1 : Int) (r2 : Int) (r3 : Int) (w : World) (hr0_2 : Kd.C k46 w A0_2 l0_2.length l0_2) (hc0_2 : l0_2.length ≤ c0_2) (h : clock_At.f a0_0 a0_1 l0_2 a1 = some (r1, r2, r3)) :
    Calls Try.prog 22 #[.agg #[.int .i64 a0_0, .int .i64 a0_1, .slice A0_2 l0_2.length c0_2], .int .i64 a1] w fun e w' => e = .returned (.tuple #[.agg #[.int .i64 r1, .int .i64 r2], .int .i64 r3]) ∧ Below w.heap.size w w' := by
  cases h
  exact At_any a0_0 a0_1 A0_2 c0_2 l0_2 a1 w hr0_2 hc0_2

def clock_Due.f (a0_0 : Int) (a0_1 : Int) (l0_2 : List (S46)) (a1 : Int) : Option (Int × Int) := some ((dueI a0_0 a0_1 l0_2 a1).1, (dueI a0_0 a0_1 l0_2 a1).2)
theorem clock_Due.calls (a0_0 : Int) (a0_1 : Int) (A0_2 : Option Addr) (c0_2 : Nat) (l0_2 : List (S46)) (a1 : Int) (r1 : Int) (r2 : Int) (w : World) (hr0_2 : Kd.C k46 w A0_2 l0_2.length l0_2) (hc0_2 : l0_2.length ≤ c0_2) (h : clock_Due.f a0_0 a0_1 l0_2 a1 = some (r1, r2)) :
    Calls Try.prog 25 #[.agg #[.int .i64 a0_0, .int .i64 a0_1, .slice A0_2 l0_2.length c0_2], .int .i64 a1] w fun e w' => e = .returned (.tuple #[.int .i64 r1, .int .i64 r2]) ∧ Below w.heap.size w w' := by
  cases h
  exact Due_any a0_0 a0_1 A0_2 c0_2 l0_2 a1 w hr0_2 hc0_2

end Go.Proofs.Ytcjdhajdoikojaa.Pr
end
section
-- PRINTED by print.py (a twelfth state) out of the translation. Not trusted: Lean checks it.
namespace Go.Proofs.Ytcjdhajdoikojaa.Pr
open Go.RowKit Go.Proofs.YtcjdhajdoikojaaW.PrintWords Go.Proofs.YtcjdhajdoikojaaW.PrintLast Go.Proofs.YtcjdhajdoikojaaW.PrintMore
attribute [local go_sem] max2_int min2_int max_two min_two
set_option linter.unusedVariables false
set_option linter.unusedSimpArgs false

/-! ### isobathlaw05_Truth_offset: function 18 -/
def isobathlaw05_Truth_offset.l0 : Nat → Int → Int → Int → Int → Int → List Int → Option (Int)
  | 0, _, _, _, _, _, _ => none
  | k + 1, x1, x2, x7, x8, x136000, x136001 => if x8 < (x136001.length : Int) then (if x8 < 20 then (if 0 ≤ x8 then (isobathlaw05_Truth_offset.l0 k x1 x2 (wrap64 (x7 + (wrap64 ((mn 1000000 (mx 0 (wrap64 (x2 - (wrap64 (x8 * 1000000)))))) * (wrap64 (Int.tdiv (wrap64 (x1 * (wrap64 (rd x136001 x8)))) 128)))))) (wrap64 (x8 + 1)) x136000 x136001) else (none)) else (some x7)) else (some x7)
def isobathlaw05_Truth_offset.f (k : Nat) (a0_0 : Int) (l0_1 : List Int) (a1 : Int) (a2 : Int) : Option (Int) := isobathlaw05_Truth_offset.l0 k a1 a2 (wrap64 ((wrap64 (a0_0)) * 1000000000)) 0 a0_0 l0_1
set_option maxHeartbeats 8000000 in
set_option maxRecDepth 100000 in
theorem isobathlaw05_Truth_offset.calls (k : Nat) (a0_0 : Int) (A0_1 : Option Addr) (c0_1 : Nat) (l0_1 : List Int) (a1 : Int) (a2 : Int) (r : Int) (w : World) (hr0_1 : Kd.C (Kd.int .i8) w A0_1 l0_1.length l0_1) (hc0_1 : l0_1.length ≤ c0_1) (h : isobathlaw05_Truth_offset.f k a0_0 l0_1 a1 a2 = some r) :
    Calls Try.prog 18 #[.agg #[.int .i32 a0_0, .slice A0_1 l0_1.length c0_1], .int .i64 a1, .int .i64 a2] w fun e w' => e = .returned (.int .i64 r) ∧ Below w.heap.size w w' := by
  have hu24 := Try.underlying24
  have HR0_1 := Aside0.mk hr0_1
  have HC0_1 := Aside0.mk hc0_1
  clear hr0_1 hc0_1
  have HB := Aside0.mk (Below.refl w.heap.size w)
  have H : (isobathlaw05_Truth_offset.l0 k a1 a2 (wrap64 ((wrap64 (a0_0)) * 1000000000)) 0 a0_0 l0_1) = some r := h
  clear h
  have H' := Aside0.mk H
  clear H
  go_enter Try.func18, Try.ntmps18
  go_wp2_with (first | ((with_reducible refine gate_dst (N := 3) rfl ?_); refine box_event ?hg (N := 3) ?hd (cs := #[.int .i32 a0_0, .slice A0_1 l0_1.length c0_1]) (t := 24) ?hr ?_; (case hd => rfl); (case hg => rfl); (case hr => first | (go_simp; done) | (go_simp; rfl)); intro gb135 hg w4 hbox hb; have n0_ := Aside0.mk (below_step (by repeat (first | (with_reducible first | exact HB.out | apply below_alloc | apply pw_below_drewN | apply below_drew1) | exact HB.out)) hb); have n1_ := Aside0.mk (hbox); have n2_ := Aside0.mk ((by rw [hg]; exact (below_size (by repeat (first | (with_reducible first | exact HB.out | apply below_alloc | apply pw_below_drewN | apply below_drew1) | exact HB.out))) : w.heap.size ≤ gb135)); have n3_ := Aside0.mk ((by rw [hg]; exact (below_size (by repeat (first | (with_reducible first | exact HB.out | apply below_alloc | apply pw_below_drewN | apply below_drew1) | exact HB.out))) : w.heap.size ≤ gb135)); clear HB; have HB := n0_; have BK135 := n1_; have GW135 := n2_; have GE135 := n3_; clear n0_ n1_ n2_ n3_; clear hb hbox hg; have hcz5_0 : w4.cell? ⟨gb135, 0, none⟩ = some (.int .i32 a0_0) := (blk_cell BK135.out 0).trans rfl; have hcz5_1 : w4.cell? ⟨gb135, 1, none⟩ = some (.slice A0_1 l0_1.length c0_1) := (blk_cell BK135.out 1).trans rfl; have hfz5_0 := blk_frozen BK135.out 0; have hfz5_1 := blk_frozen BK135.out 1))
  go_loopg [7, 8] k (fun kq v7 v8 w' => ∃ (x7_1 : Int) (x8_1 : Int), v7 = .int .i64 x7_1 ∧ v8 = .int .i64 x8_1 ∧ Aside0 (isobathlaw05_Truth_offset.l0 kq a1 a2 x7_1 x8_1 a0_0 l0_1 = some r) ∧ Aside0 (kq ≤ k) ∧ Aside0 (w'.heap[gb135]? = some (.cells #[.int .i32 a0_0, (.slice A0_1 l0_1.length c0_1)] 24 (0, 0))) ∧ Aside0 (Below w.heap.size w w'))
  case atStart => exact ⟨(wrap64 ((wrap64 (a0_0)) * 1000000000)), (0), (by first | rfl | (simp; done) | (simp [*]; done)), (by first | rfl | (simp; done) | (simp [*]; done)), H', ⟨Nat.le_refl _⟩, ⟨by (with_reducible repeat (first | refine blk_drewN ?_ _ | refine blk_drew ?_ | refine blk_alloc ?_ _)); exact BK135.out⟩, ⟨by repeat (first | (with_reducible first | exact HB.out | apply below_alloc | apply pw_below_drewN | apply below_drew1 | refine below_set ?_ GE135.out) | exact HB.out)⟩⟩
  case round =>
    clear H'
    try clear c1
    try clear p2
    try clear hcz5_0
    try clear hcz5_1
    try clear hfz5_0
    try clear hfz5_1
    obtain ⟨x7_1, x8_1, rfl, rfl, HA, HK1, BK135, HB⟩ := hrel
    cases gk with
    | zero => exact absurd HA.out (by simp [isobathlaw05_Truth_offset.l0])
    | succ k1 =>
      have H := HA.out
      clear HA
      simp only [isobathlaw05_Truth_offset.l0] at H
      by_cases c6 : x8_1 < (l0_1.length : Int)
      · rw [if_pos c6] at H
        have c6b0 : decide (x8_1 < (l0_1.length : Int)) = true := decide_eq_true c6
        clear c6
        by_cases c7 : x8_1 < 20
        · rw [if_pos c7] at H
          have c7b0 : decide (x8_1 < 20) = true := decide_eq_true c7
          clear c7
          obtain ⟨ji8, hji8⟩ : ∃ j_ : Int, (mx 0 (wrap64 (a2 - (wrap64 (x8_1 * 1000000))))) = j_ := ⟨_, rfl⟩
          replace H : (if 0 ≤ x8_1 then (isobathlaw05_Truth_offset.l0 k1 a1 a2 (wrap64 (x7_1 + (wrap64 ((mn 1000000 (ji8)) * (wrap64 (Int.tdiv (wrap64 (a1 * (wrap64 (rd l0_1 x8_1)))) 128)))))) (wrap64 (x8_1 + 1)) a0_0 l0_1) else (none)) = some r := by first | (rw [hji8] at H; exact H) | (simp only [hji8] at H ⊢; exact H)
          have hji8_ : (if 0 < (wrap64 (a2 - (wrap64 (x8_1 * 1000000)))) then (wrap64 (a2 - (wrap64 (x8_1 * 1000000)))) else 0) = ji8 := hji8
          obtain ⟨ji9, hji9⟩ : ∃ j_ : Int, (mn 1000000 (ji8)) = j_ := ⟨_, rfl⟩
          replace H : (if 0 ≤ x8_1 then (isobathlaw05_Truth_offset.l0 k1 a1 a2 (wrap64 (x7_1 + (wrap64 ((ji9) * (wrap64 (Int.tdiv (wrap64 (a1 * (wrap64 (rd l0_1 x8_1)))) 128)))))) (wrap64 (x8_1 + 1)) a0_0 l0_1) else (none)) = some r := by first | (rw [hji9] at H; exact H) | (simp only [hji9] at H ⊢; exact H)
          have hji9_ : (if (ji8) < 1000000 then (ji8) else 1000000) = ji9 := hji9
          by_cases c10 : 0 ≤ x8_1
          · rw [if_pos c10] at H
            have c10b0 : decide (0 ≤ x8_1) = true := decide_eq_true c10
            clear c10
            have H' := Aside0.mk H
            clear H
            have hcz11_0 : wr.cell? ⟨gb135, 0, none⟩ = some (.int .i32 a0_0) := (blk_cell BK135.out 0).trans rfl
            have hcz11_1 : wr.cell? ⟨gb135, 1, none⟩ = some (.slice A0_1 l0_1.length c0_1) := (blk_cell BK135.out 1).trans rfl
            have hfz11_0 := blk_frozen BK135.out 0
            have hfz11_1 := blk_frozen BK135.out 1
            have p136 : 0 ≤ (x8_1 : Int) := of_decide_eq_true (by first | (with_reducible assumption) | assumption)
            have q136 : x8_1 < (l0_1.length : Int) := of_decide_eq_true (by first | (with_reducible assumption) | assumption)
            obtain ⟨ad136, e136, hx136_0⟩ := Kd.at_int HR0_1.out x8_1 p136 q136
            cases e136
            replace hx136_0 := (HB.out.cell (World.block_lt_of_cell? w _ hx136_0)).trans hx136_0
            replace p136 := eq_true p136
            replace q136 := eq_true q136
            go_wp2
            go_roundg k1
            case measure => have := HK1.out; omega
            case rel => exact ⟨(wrap64 (x7_1 + (wrap64 ((ji9) * (wrap64 (Int.tdiv (wrap64 (a1 * (wrap64 (rd l0_1 x8_1)))) 128)))))), (wrap64 (x8_1 + 1)), (by first | rfl | (simp; done) | (simp only [← hji9] <;> (first | rfl | simp)) | (simp [*]; done)), (by first | rfl | (simp; done) | (simp [*]; done)), H', ⟨by have := HK1.out; omega⟩, ⟨by (with_reducible repeat (first | refine blk_drewN ?_ _ | refine blk_drew ?_ | refine blk_alloc ?_ _)); exact BK135.out⟩, ⟨by repeat (first | (with_reducible first | exact HB.out | apply below_alloc | apply pw_below_drewN | apply below_drew1 | refine below_set ?_ GE135.out) | exact HB.out)⟩⟩
          · rw [if_neg c10] at H
            exact absurd H (by simp)
        · rw [if_neg c7] at H
          have c7b0 : decide (x8_1 < 20) = false := decide_eq_false c7
          clear c7
          obtain rfl := Option.some.inj H
          have hcz12_0 : wr.cell? ⟨gb135, 0, none⟩ = some (.int .i32 a0_0) := (blk_cell BK135.out 0).trans rfl
          have hcz12_1 : wr.cell? ⟨gb135, 1, none⟩ = some (.slice A0_1 l0_1.length c0_1) := (blk_cell BK135.out 1).trans rfl
          have hfz12_0 := blk_frozen BK135.out 0
          have hfz12_1 := blk_frozen BK135.out 1
          go_wp2
          go_ret
          exact ⟨by first | rfl | (simp [errW_none, errW_some] <;> rfl) | (simp [*, errW_none, errW_some] <;> rfl), by repeat (first | (with_reducible first | exact HB.out | apply below_alloc | apply pw_below_drewN | apply below_drew1 | refine below_set ?_ GE135.out) | exact HB.out)⟩
      · rw [if_neg c6] at H
        have c6b0 : decide (x8_1 < (l0_1.length : Int)) = false := decide_eq_false c6
        clear c6
        obtain rfl := Option.some.inj H
        have hcz13_0 : wr.cell? ⟨gb135, 0, none⟩ = some (.int .i32 a0_0) := (blk_cell BK135.out 0).trans rfl
        have hcz13_1 : wr.cell? ⟨gb135, 1, none⟩ = some (.slice A0_1 l0_1.length c0_1) := (blk_cell BK135.out 1).trans rfl
        have hfz13_0 := blk_frozen BK135.out 0
        have hfz13_1 := blk_frozen BK135.out 1
        go_wp2
        go_ret
        exact ⟨by first | rfl | (simp [errW_none, errW_some] <;> rfl) | (simp [*, errW_none, errW_some] <;> rfl), by repeat (first | (with_reducible first | exact HB.out | apply below_alloc | apply pw_below_drewN | apply below_drew1 | refine below_set ?_ GE135.out) | exact HB.out)⟩

end Go.Proofs.Ytcjdhajdoikojaa.Pr
end
section
-- PRINTED by print.py (a twelfth state) out of the translation. Not trusted: Lean checks it.
namespace Go.Proofs.Ytcjdhajdoikojaa.Pr
open Go.RowKit Go.Proofs.YtcjdhajdoikojaaW.PrintWords Go.Proofs.YtcjdhajdoikojaaW.PrintLast Go.Proofs.YtcjdhajdoikojaaW.PrintMore
attribute [local go_sem] max2_int min2_int max_two min_two
set_option linter.unusedVariables false
set_option linter.unusedSimpArgs false

/-! ### isobathlaw05_down: function 19 -/
def isobathlaw05_down.f (a0 : Int) : Option (Int) := if (Int.tmod a0 1000000000) < 0 then (some (wrap64 ((wrap64 (Int.tdiv a0 1000000000)) - 1))) else (some (wrap64 (Int.tdiv a0 1000000000)))
set_option maxHeartbeats 8000000 in
set_option maxRecDepth 100000 in
theorem isobathlaw05_down.calls (a0 : Int) (r : Int) (w : World) (h : isobathlaw05_down.f a0 = some r) :
    Calls Try.prog 19 #[.int .i64 a0] w fun e w' => e = .returned (.int .i64 r) ∧ Drawn0 w w' := by
  have H : (if (Int.tmod a0 1000000000) < 0 then (some (wrap64 ((wrap64 (Int.tdiv a0 1000000000)) - 1))) else (some (wrap64 (Int.tdiv a0 1000000000)))) = some r := h
  clear h
  by_cases c2 : (Int.tmod a0 1000000000) < 0
  · rw [if_pos c2] at H
    have c2b0 : decide ((Int.tmod a0 1000000000) < 0) = true := decide_eq_true c2
    clear c2
    obtain rfl := Option.some.inj H
    go_enter Try.func19, Try.ntmps19
    go_wp2
    go_ret
    exact ⟨by first | rfl | (simp; done) | (simp [*]; done), by repeat (first | exact Drawn0.refl _ | apply Drawn0.step)⟩
  · rw [if_neg c2] at H
    have c2b0 : decide ((Int.tmod a0 1000000000) < 0) = false := decide_eq_false c2
    clear c2
    obtain rfl := Option.some.inj H
    go_enter Try.func19, Try.ntmps19
    go_wp2
    go_ret
    exact ⟨by first | rfl | (simp; done) | (simp [*]; done), by repeat (first | exact Drawn0.refl _ | apply Drawn0.step)⟩

end Go.Proofs.Ytcjdhajdoikojaa.Pr
end
section
-- PRINTED by print.py (a twelfth state) out of the translation. Not trusted: Lean checks it.
namespace Go.Proofs.Ytcjdhajdoikojaa.Pr
open Go.RowKit Go.Proofs.YtcjdhajdoikojaaW.PrintWords Go.Proofs.YtcjdhajdoikojaaW.PrintLast Go.Proofs.YtcjdhajdoikojaaW.PrintMore
attribute [local go_sem] max2_int min2_int max_two min_two
set_option linter.unusedVariables false
set_option linter.unusedSimpArgs false

/-! ### isobathlaw05_up: function 20 -/
def isobathlaw05_up.f (a0 : Int) : Option (Int) := (isobathlaw05_down.f (wrap64 (-a0))).bind fun t137 => (some (wrap64 (-t137)))
set_option maxHeartbeats 8000000 in
set_option maxRecDepth 100000 in
theorem isobathlaw05_up.calls (a0 : Int) (r : Int) (w : World) (h : isobathlaw05_up.f a0 = some r) :
    Calls Try.prog 20 #[.int .i64 a0] w fun e w' => e = .returned (.int .i64 r) ∧ Drawn0 w w' := by
  have H : ((isobathlaw05_down.f (wrap64 (-a0))).bind fun t137 => (some (wrap64 (-t137)))) = some r := h
  clear h
  replace H := Option.bind_eq_some_iff.mp H
  obtain ⟨t137, A20, H⟩ := H
  replace H : (some (wrap64 (-t137))) = some r := H
  have A2 := Aside0.mk A20
  clear A20
  obtain rfl := Option.some.inj H
  go_enter Try.func20, Try.ntmps20
  go_wp2_with (first | ((with_reducible refine gate_callee (f := 19) rfl ?_); refine goesL_ (some 5) rfl rfl Try.func19 (by kernel_rfl) rfl #[.int .i64 (wrap64 (-a0))] rfl (by (try simp only [List.map_toArray, List.map_cons, List.map_nil]); first | done | rfl | (simp only [List.length_drop, List.length_take]; rfl)) ?_; (with_reducible refine (isobathlaw05_down.calls (wrap64 (-a0)) t137 _ A2.out).mono ?_); rintro e w' ⟨rfl, ⟨nd, rfl⟩⟩; refine ⟨_, rfl, ?_⟩))
  go_ret
  exact ⟨by first | rfl | (simp; done) | (simp [*]; done), by repeat (first | exact Drawn0.refl _ | apply Drawn0.step)⟩

end Go.Proofs.Ytcjdhajdoikojaa.Pr
end
section
/- The exchange of a talk, as the statement computes it. -/
namespace Go.Proofs.Ytcjdhajdoikojaa.Clk
open Go.RowKit Go.Shelf Go.Proofs.YtcjdhajdoikojaaW.PrintWords Go.Proofs.YtcjdhajdoikojaaW.PrintLast Go.Proofs.YtcjdhajdoikojaaW.PrintMore Go.Proofs.Ytcjdhajdoikojaa.Pr Go.Proofs.YtcjdhajdoikojaaW.Round
set_option linter.unusedVariables false
set_option linter.unusedSimpArgs false
attribute [local go_sem] max2_int min2_int max_two min_two
theorem tof_loop (rate at_ start : Int) (slow : List Int) : ∀ (m : Nat) (i k : Nat) (acc : Int), i + m = 20 → m + 1 ≤ k → ∃ v, isobathlaw05_Truth_offset.l0 k rate at_ acc (i : Int) start slow = some v := by
  intro m
  induction m with
  | zero =>
    intro i k acc h hk
    obtain ⟨k, rfl⟩ : ∃ q, k = q + 1 := ⟨k - 1, by omega⟩
    rw [isobathlaw05_Truth_offset.l0, if_neg (show ¬ ((i : Int) < 20) by omega)]
    split <;> exact ⟨_, rfl⟩
  | succ m ih =>
    intro i k acc h hk
    obtain ⟨k, rfl⟩ : ∃ q, k = q + 1 := ⟨k - 1, by omega⟩
    rw [isobathlaw05_Truth_offset.l0, if_pos (show (i : Int) < 20 by omega), if_pos (show 0 ≤ (i : Int) by omega), show wrap64 ((i : Int) + 1) = ((i + 1 : Nat) : Int) by unfold wrap64; omega]
    split
    · exact ih (i + 1) k _ (by omega) (by omega)
    · exact ⟨_, rfl⟩
/-- The true offset at a reading, in milliardths. -/
def tofI (start : Int) (slow : List Int) (rate at_ : Int) : Int := (isobathlaw05_Truth_offset.f 30 start slow rate at_).getD 0
theorem tof_some (start : Int) (slow : List Int) (rate at_ : Int) : isobathlaw05_Truth_offset.f 30 start slow rate at_ = some (tofI start slow rate at_) := by
  obtain ⟨v, hv⟩ := tof_loop rate at_ start slow 20 0 30 (wrap64 (wrap64 start * 1000000000)) rfl (by omega)
  have e : isobathlaw05_Truth_offset.f 30 start slow rate at_ = some v := hv
  unfold tofI
  rw [e]
  rfl
def downI (a : Int) : Int := (isobathlaw05_down.f a).getD 0
theorem down_some' (a : Int) : isobathlaw05_down.f a = some (downI a) := by
  unfold downI isobathlaw05_down.f
  split <;> rfl
def upwI (a : Int) : Int := wrap64 (-(downI (wrap64 (-a))))
theorem up_some' (a : Int) : isobathlaw05_up.f a = some (upwI a) := by
  unfold isobathlaw05_up.f upwI
  rw [down_some']
  rfl
theorem tof_any (start : Int) (A : Option Addr) (c : Nat) (slow : List Int) (rate at_ : Int) (w : World) (hC : Kd.C (Kd.int .i8) w A slow.length slow) (hc : slow.length ≤ c) :
    Calls Try.prog 18 #[.agg #[.int .i32 start, .slice A slow.length c], .int .i64 rate, .int .i64 at_] w fun e w' => e = .returned (.int .i64 (tofI start slow rate at_)) ∧ Below w.heap.size w w' :=
  isobathlaw05_Truth_offset.calls 30 _ _ _ _ _ _ _ w hC hc (tof_some start slow rate at_)
theorem down_any' (a : Int) (w : World) : Calls Try.prog 19 #[.int .i64 a] w fun e w' => e = .returned (.int .i64 (downI a)) ∧ Below w.heap.size w w' := (isobathlaw05_down.calls a _ w (down_some' a)).mono fun _ _ h => ⟨h.1, h.2.below⟩
theorem upw_any (a : Int) (w : World) : Calls Try.prog 20 #[.int .i64 a] w fun e w' => e = .returned (.int .i64 (upwI a)) ∧ Below w.heap.size w w' := (isobathlaw05_up.calls a _ w (up_some' a)).mono fun _ _ h => ⟨h.1, h.2.below⟩

def xSent (a0 : Int) : Int := Int.tmod (wrap64 a0) 15000000
def xBack (a0 a1 : Int) : Int := wrap64 (xSent a0 + wrap64 a1)
def xHeard (start : Int) (slow : List Int) (rate a0 a2 : Int) : Int := wrap64 (upwI (wrap64 (wrap64 (xSent a0 * 1000000000) + tofI start slow rate (xSent a0))) + wrap64 a2)
def xAns (start : Int) (slow : List Int) (rate a0 a1 a3 : Int) : Int := wrap64 (downI (wrap64 (wrap64 (xBack a0 a1 * 1000000000) + tofI start slow rate (xBack a0 a1))) - wrap64 a3)
def xLo (a b : Int) : Int := mx 0 (wrap64 (wrap64 a - wrap64 b))
def xHi (a b : Int) : Int := wrap64 (wrap64 (wrap64 a + 1) + wrap64 b)
set_option maxRecDepth 100000 in
set_option maxHeartbeats 4000000 in
theorem exchange_any (start : Int) (A : Option Addr) (c : Nat) (slow : List Int) (rate a0 a1 a2 a3 b0 b1 b2 b3 : Int) (w : World) (hC : Kd.C (Kd.int .i8) w A slow.length slow) (hc : slow.length ≤ c) :
    Calls Try.prog 53 #[.agg #[.int .i32 start, .slice A slow.length c], .int .i64 rate, .agg #[.int .u32 a0, .int .u16 a1, .int .u16 a2, .int .u16 a3, .int .u16 b0, .int .u16 b1, .int .u16 b2, .int .u16 b3]] w fun e w' =>
      e = .returned (.agg #[.int .i64 (xSent a0), .int .i64 (xHeard start slow rate a0 a2), .int .i64 (xAns start slow rate a0 a1 a3), .int .i64 (xBack a0 a1), .int .i64 (xLo a2 b0), .int .i64 (xHi a2 b1), .int .i64 (xLo a3 b2), .int .i64 (xHi a3 b3)]) ∧ Below w.heap.size w w' := by
  have hu35 := Try.underlying35
  have hu46 := Try.underlying46
  have hu24 := Try.underlying24
  have hu93 := Try.underlying93
  go_enter Try.func53, Try.ntmps53
  go_wp2
  have m3 : Blk (((w.alloc (.cells #[.int .i32 start, .slice A slow.length c] 24)).alloc (.cells #[.int .u32 a0, .int .u16 a1, .int .u16 a2, .int .u16 a3, .int .u16 b0, .int .u16 b1, .int .u16 b2, .int .u16 b3] 93)).alloc (.cells #[.int .i64 0, .int .i64 0, .int .i64 0, .int .i64 0, .int .i64 0, .int .i64 0, .int .i64 0, .int .i64 0] 46)) (w.heap.size) #[.int .i32 start, .slice A slow.length c] 24 := (blk_alloc (blk_alloc (by have h_ := blk_new w (.cells #[.int .i32 start, .slice A slow.length c] 24); first | exact h_ | (simp only [World.size_alloc] at h_; exact h_)) _) _)
  have m5 : Blk (((w.alloc (.cells #[.int .i32 start, .slice A slow.length c] 24)).alloc (.cells #[.int .u32 a0, .int .u16 a1, .int .u16 a2, .int .u16 a3, .int .u16 b0, .int .u16 b1, .int .u16 b2, .int .u16 b3] 93)).alloc (.cells #[.int .i64 0, .int .i64 0, .int .i64 0, .int .i64 0, .int .i64 0, .int .i64 0, .int .i64 0, .int .i64 0] 46)) (w.heap.size + 1) #[.int .u32 a0, .int .u16 a1, .int .u16 a2, .int .u16 a3, .int .u16 b0, .int .u16 b1, .int .u16 b2, .int .u16 b3] 93 := (blk_alloc (by have h_ := blk_new (w.alloc (.cells #[.int .i32 start, .slice A slow.length c] 24)) (.cells #[.int .u32 a0, .int .u16 a1, .int .u16 a2, .int .u16 a3, .int .u16 b0, .int .u16 b1, .int .u16 b2, .int .u16 b3] 93); first | exact h_ | (simp only [World.size_alloc] at h_; exact h_)) _)
  have m6 : Blk (((w.alloc (.cells #[.int .i32 start, .slice A slow.length c] 24)).alloc (.cells #[.int .u32 a0, .int .u16 a1, .int .u16 a2, .int .u16 a3, .int .u16 b0, .int .u16 b1, .int .u16 b2, .int .u16 b3] 93)).alloc (.cells #[.int .i64 0, .int .i64 0, .int .i64 0, .int .i64 0, .int .i64 0, .int .i64 0, .int .i64 0, .int .i64 0] 46)) (w.heap.size + 1 + 1) #[.int .i64 0, .int .i64 0, .int .i64 0, .int .i64 0, .int .i64 0, .int .i64 0, .int .i64 0, .int .i64 0] 46 := (by have h_ := blk_new ((w.alloc (.cells #[.int .i32 start, .slice A slow.length c] 24)).alloc (.cells #[.int .u32 a0, .int .u16 a1, .int .u16 a2, .int .u16 a3, .int .u16 b0, .int .u16 b1, .int .u16 b2, .int .u16 b3] 93)) (.cells #[.int .i64 0, .int .i64 0, .int .i64 0, .int .i64 0, .int .i64 0, .int .i64 0, .int .i64 0, .int .i64 0] 46); first | exact h_ | (simp only [World.size_alloc] at h_; exact h_))
  have mB : Below w.heap.size w (((w.alloc (.cells #[.int .i32 start, .slice A slow.length c] 24)).alloc (.cells #[.int .u32 a0, .int .u16 a1, .int .u16 a2, .int .u16 a3, .int .u16 b0, .int .u16 b1, .int .u16 b2, .int .u16 b3] 93)).alloc (.cells #[.int .i64 0, .int .i64 0, .int .i64 0, .int .i64 0, .int .i64 0, .int .i64 0, .int .i64 0, .int .i64 0] 46)) := (below_alloc (below_alloc (below_alloc (Below.refl w.heap.size w) _) _) _)
  have hsz_ : w.heap.size ≤ w.heap.size := Nat.le_refl _
  generalize hW_ : (((w.alloc (.cells #[.int .i32 start, .slice A slow.length c] 24)).alloc (.cells #[.int .u32 a0, .int .u16 a1, .int .u16 a2, .int .u16 a3, .int .u16 b0, .int .u16 b1, .int .u16 b2, .int .u16 b3] 93)).alloc (.cells #[.int .i64 0, .int .i64 0, .int .i64 0, .int .i64 0, .int .i64 0, .int .i64 0, .int .i64 0, .int .i64 0] 46)) = W1 at m3 m5 m6 mB ⊢
  clear hW_
  generalize hg3 : w.heap.size = g3 at m3 m5 m6 ⊢
  have hG3 : w.heap.size ≤ g3 := by omega
  generalize hg5 : g3 + 1 = g5 at m5 m6 ⊢
  have hn_3_5 : g3 ≠ g5 := by omega
  have hn_5_3 : g5 ≠ g3 := hn_3_5.symm
  have hG5 : w.heap.size ≤ g5 := by omega
  generalize hg6 : g5 + 1 = g6 at m6 ⊢
  have hn_3_6 : g3 ≠ g6 := by omega
  have hn_5_6 : g5 ≠ g6 := by omega
  have hn_6_3 : g6 ≠ g3 := hn_3_6.symm
  have hn_6_5 : g6 ≠ g5 := hn_5_6.symm
  have hG6 : w.heap.size ≤ g6 := by omega
  clear hsz_
  try clear hg6
  try clear hg5
  try clear hg3
  have hs_W1 : w.heap.size ≤ W1.heap.size := mB.size
  replace m3 := blk_drew m3
  replace m5 := blk_drew m5
  replace m6 := blk_drew m6
  replace mB := below_drew1 mB
  generalize hs_ : Int.tmod (wrap64 a0) 15000000 = sent
  generalize hb_ : wrap64 (sent + wrap64 a1) = back
  have HS := Lib.hid hs_
  have HB_ := Lib.hid hb_
  clear hs_ hb_
  refine start_ (n := 13) (S := fun w' => w'.cell? ⟨g3, 0, none⟩ = some (.int .i32 start) ∧ w'.cell? ⟨g3, 1, none⟩ = some (.slice A slow.length c) ∧ w'.cell? ⟨g5, 0, none⟩ = some (.int .u32 a0) ∧ w'.cell? ⟨g5, 1, none⟩ = some (.int .u16 a1) ∧ w'.cell? ⟨g5, 2, none⟩ = some (.int .u16 a2) ∧ w'.cell? ⟨g5, 3, none⟩ = some (.int .u16 a3) ∧ w'.cell? ⟨g5, 4, none⟩ = some (.int .u16 b0) ∧ w'.cell? ⟨g5, 5, none⟩ = some (.int .u16 b1) ∧ w'.cell? ⟨g5, 6, none⟩ = some (.int .u16 b2) ∧ w'.cell? ⟨g5, 7, none⟩ = some (.int .u16 b3)) (ds := []) #[false, false, false, false, false, false, false, false, false, false, false, false, false] (by kernel_rfl) rfl rfl ⟨((blk_cell m3 0).trans rfl), ((blk_cell m3 1).trans rfl), ((blk_cell m5 0).trans rfl), ((blk_cell m5 1).trans rfl), ((blk_cell m5 2).trans rfl), ((blk_cell m5 3).trans rfl), ((blk_cell m5 4).trans rfl), ((blk_cell m5 5).trans rfl), ((blk_cell m5 6).trans rfl), ((blk_cell m5 7).trans rfl)⟩ (fun hHeld => ?_)
  generalize hWd : World.drew _ = Wd at *
  clear hWd
  refine pure_ (i := 0) (N := some 21) (v := ?_) (a' := ?_) #[true, false, false, false, false, false, false, false, false, false, false, false, false] rfl rfl (by kernel_rfl) (fun _ _ _ h => h) (Or.inl ⟨by rfl, ?_⟩) ?_ ?_
  rotate_left
  · intro w'
    go_simp
    with_reducible rfl
  rotate_left
  · simp only [Act.put, List.setIfInBounds_toArray, List.set_cons_zero, List.set_cons_succ, i64_w, i32_w]
    rfl
  refine pure_ (i := 1) (N := some 22) (v := ?_) (a' := ?_) #[true, true, false, false, false, false, false, false, false, false, false, false, false] rfl rfl (by kernel_rfl) (fun _ _ _ h => h) (Or.inl ⟨by rfl, ?_⟩) ?_ ?_
  rotate_left
  · intro w'
    go_simp
    with_reducible rfl
  rotate_left
  · simp only [Act.put, List.setIfInBounds_toArray, List.set_cons_zero, List.set_cons_succ, i64_w, i32_w]
    rfl
  refine pure_ (i := 3) (N := some 24) (v := ?_) (a' := ?_) #[true, true, false, true, false, false, false, false, false, false, false, false, false] rfl rfl (by kernel_rfl) (fun _ _ _ h => h) (Or.inl ⟨by rfl, ?_⟩) ?_ ?_
  rotate_left
  · intro w'
    go_simp
    with_reducible rfl
  rotate_left
  · simp only [Act.put, List.setIfInBounds_toArray, List.set_cons_zero, List.set_cons_succ, i64_w, i32_w]
    rfl
  refine pure_ (i := 4) (N := some 25) (v := ?_) (a' := ?_) #[true, true, false, true, true, false, false, false, false, false, false, false, false] rfl rfl (by kernel_rfl) (fun _ _ _ h => h) (Or.inl ⟨by rfl, ?_⟩) ?_ ?_
  rotate_left
  · intro w'
    go_simp
    with_reducible rfl
  rotate_left
  · simp only [Act.put, List.setIfInBounds_toArray, List.set_cons_zero, List.set_cons_succ, i64_w, i32_w]
    rfl
  refine pure_ (i := 8) (N := some 29) (v := ?_) (a' := ?_) #[true, true, false, true, true, false, false, false, true, false, false, false, false] rfl rfl (by kernel_rfl) (fun _ _ _ h => h) (Or.inl ⟨by rfl, ?_⟩) ?_ ?_
  rotate_left
  · intro w'
    go_simp
    with_reducible rfl
  rotate_left
  · simp only [Act.put, List.setIfInBounds_toArray, List.set_cons_zero, List.set_cons_succ, i64_w, i32_w]
    rfl
  refine take_ (i := 2) (N := some 23) (v := ?_) (a' := ?_) #[true, true, true, true, true, false, false, false, true, false, false, false, false] rfl rfl (by kernel_rfl) (fun _ _ _ h => h) (Or.inl ⟨by rfl, ?_⟩) hHeld ?_ ?_
  rotate_left
  · rintro w' ⟨s0, s1, s2, s3, s4, s5, s6, s7, s8, s9⟩
    go_simp
    with_reducible rfl
  rotate_left
  · simp only [Act.put, List.setIfInBounds_toArray, List.set_cons_zero, List.set_cons_succ, i64_w, i32_w]
    rfl
  refine take_ (i := 9) (N := some 30) (v := ?_) (a' := ?_) #[true, true, true, true, true, false, false, false, true, true, false, false, false] rfl rfl (by kernel_rfl) (fun _ _ _ h => h) (Or.inl ⟨by rfl, ?_⟩) hHeld ?_ ?_
  rotate_left
  · rintro w' ⟨s0, s1, s2, s3, s4, s5, s6, s7, s8, s9⟩
    go_simp
    with_reducible rfl
  rotate_left
  · simp only [Act.put, List.setIfInBounds_toArray, List.set_cons_zero, List.set_cons_succ, i64_w, i32_w]
    rfl
  refine pure_ (i := 10) (N := some 31) (v := ?_) (a' := ?_) #[true, true, true, true, true, false, false, false, true, true, true, false, false] rfl rfl (by kernel_rfl) (fun _ _ _ h => h) (Or.inl ⟨by rfl, ?_⟩) ?_ ?_
  rotate_left
  · intro w'
    go_simp
    with_reducible rfl
  rotate_left
  · simp only [Act.put, List.setIfInBounds_toArray, List.set_cons_zero, List.set_cons_succ, i64_w, i32_w]
    rfl
  refine one_ (i := 5) (N := some 26) #[true, true, true, true, true, true, false, false, true, true, true, false, false] rfl rfl (by kernel_rfl) (by decide) (fun K hK => ?_)
  refine goes_ Try.func18 (by kernel_rfl) rfl #[.agg #[.int .i32 start, .slice A slow.length c], .int .i64 rate, .int .i64 sent] (by rfl) rfl rfl (by simp only [List.map_toArray, List.map_cons, List.map_nil]; rfl) ?_
  with_reducible refine (tof_any start A c slow rate sent _ (Kd.C_below hC mB) hc).mono ?_
  rintro e w5_3 ⟨rfl, hb⟩
  refine ⟨_, rfl, ?_⟩
  replace m3 := blk_below m3 hb
  replace m5 := blk_below m5 hb
  replace m6 := blk_below m6 hb
  replace mB := below_step mB hb
  clear hb
  refine hK.out _ _ ⟨((blk_cell m3 0).trans rfl), ((blk_cell m3 1).trans rfl), ((blk_cell m5 0).trans rfl), ((blk_cell m5 1).trans rfl), ((blk_cell m5 2).trans rfl), ((blk_cell m5 3).trans rfl), ((blk_cell m5 4).trans rfl), ((blk_cell m5 5).trans rfl), ((blk_cell m5 6).trans rfl), ((blk_cell m5 7).trans rfl)⟩ (fun hHeld => ?_)
  clear hK K
  refine norm_ (a' := ?_) ?_ ?_
  rotate_left
  · show Act.put _ (some 26) _ = _
    simp only [Act.put, List.setIfInBounds_toArray, List.set_cons_zero, List.set_cons_succ, i64_w, i32_w]
    rfl
  refine pure_ (i := 6) (N := some 27) (v := ?_) (a' := ?_) #[true, true, true, true, true, true, true, false, true, true, true, false, false] rfl rfl (by kernel_rfl) (fun _ _ _ h => h) (Or.inl ⟨by rfl, ?_⟩) ?_ ?_
  rotate_left
  · intro w'
    go_simp
    with_reducible rfl
  rotate_left
  · simp only [Act.put, List.setIfInBounds_toArray, List.set_cons_zero, List.set_cons_succ, i64_w, i32_w]
    rfl
  refine one_ (i := 7) (N := some 28) #[true, true, true, true, true, true, true, true, true, true, true, false, false] rfl rfl (by kernel_rfl) (by decide) (fun K hK => ?_)
  refine goes_ Try.func20 (by kernel_rfl) rfl #[.int .i64 (wrap64 (wrap64 (sent * 1000000000) + tofI start slow rate sent))] (by rfl) rfl rfl (by simp only [List.map_toArray, List.map_cons, List.map_nil]; rfl) ?_
  with_reducible refine (upw_any (wrap64 (wrap64 (sent * 1000000000) + tofI start slow rate sent)) _).mono ?_
  rintro e w7_3 ⟨rfl, hb⟩
  refine ⟨_, rfl, ?_⟩
  replace m3 := blk_below m3 hb
  replace m5 := blk_below m5 hb
  replace m6 := blk_below m6 hb
  replace mB := below_step mB hb
  clear hb
  refine hK.out _ _ ⟨((blk_cell m3 0).trans rfl), ((blk_cell m3 1).trans rfl), ((blk_cell m5 0).trans rfl), ((blk_cell m5 1).trans rfl), ((blk_cell m5 2).trans rfl), ((blk_cell m5 3).trans rfl), ((blk_cell m5 4).trans rfl), ((blk_cell m5 5).trans rfl), ((blk_cell m5 6).trans rfl), ((blk_cell m5 7).trans rfl)⟩ (fun hHeld => ?_)
  clear hK K
  refine norm_ (a' := ?_) ?_ ?_
  rotate_left
  · show Act.put _ (some 28) _ = _
    simp only [Act.put, List.setIfInBounds_toArray, List.set_cons_zero, List.set_cons_succ, i64_w, i32_w]
    rfl
  refine pure_ (i := 11) (N := some 32) (v := ?_) (a' := ?_) #[true, true, true, true, true, true, true, true, true, true, true, true, false] rfl rfl (by kernel_rfl) (fun _ _ _ h => h) (Or.inl ⟨by rfl, ?_⟩) ?_ ?_
  rotate_left
  · intro w'
    go_simp
    with_reducible rfl
  rotate_left
  · simp only [Act.put, List.setIfInBounds_toArray, List.set_cons_zero, List.set_cons_succ, i64_w, i32_w]
    rfl
  refine pure_ (i := 12) (N := some 9) (v := ?_) (a' := ?_) #[true, true, true, true, true, true, true, true, true, true, true, true, true] rfl rfl (by kernel_rfl) (fun _ _ _ h => h) (Or.inl ⟨by rfl, ?_⟩) ?_ ?_
  rotate_left
  · intro w'
    go_simp
    with_reducible rfl
  rotate_left
  · simp only [Act.put, List.setIfInBounds_toArray, List.set_cons_zero, List.set_cons_succ, i64_w, i32_w]
    rfl
  refine done_ (by kernel_rfl) ?_
  generalize hh_ : wrap64 (upwI (wrap64 (wrap64 (sent * 1000000000) + tofI start slow rate sent)) + wrap64 a2) = heard
  have HH := Lib.hid hh_
  clear hh_
  try clear hHeld
  go_wp2
  replace m3 := blk_drew m3
  replace m5 := blk_drew m5
  replace m6 := blk_drew m6
  replace mB := below_drew1 mB
  refine start_ (n := 13) (S := fun w' => w'.cell? ⟨g3, 0, none⟩ = some (.int .i32 start) ∧ w'.cell? ⟨g3, 1, none⟩ = some (.slice A slow.length c) ∧ w'.cell? ⟨g5, 0, none⟩ = some (.int .u32 a0) ∧ w'.cell? ⟨g5, 1, none⟩ = some (.int .u16 a1) ∧ w'.cell? ⟨g5, 2, none⟩ = some (.int .u16 a2) ∧ w'.cell? ⟨g5, 3, none⟩ = some (.int .u16 a3) ∧ w'.cell? ⟨g5, 4, none⟩ = some (.int .u16 b0) ∧ w'.cell? ⟨g5, 5, none⟩ = some (.int .u16 b1) ∧ w'.cell? ⟨g5, 6, none⟩ = some (.int .u16 b2) ∧ w'.cell? ⟨g5, 7, none⟩ = some (.int .u16 b3)) (ds := []) #[false, false, false, false, false, false, false, false, false, false, false, false, false] (by kernel_rfl) rfl rfl ⟨((blk_cell m3 0).trans rfl), ((blk_cell m3 1).trans rfl), ((blk_cell m5 0).trans rfl), ((blk_cell m5 1).trans rfl), ((blk_cell m5 2).trans rfl), ((blk_cell m5 3).trans rfl), ((blk_cell m5 4).trans rfl), ((blk_cell m5 5).trans rfl), ((blk_cell m5 6).trans rfl), ((blk_cell m5 7).trans rfl)⟩ (fun hHeld => ?_)
  generalize hWd : World.drew _ = We at *
  clear hWd
  refine pure_ (i := 0) (N := some 33) (v := ?_) (a' := ?_) #[true, false, false, false, false, false, false, false, false, false, false, false, false] rfl rfl (by kernel_rfl) (fun _ _ _ h => h) (Or.inl ⟨by rfl, ?_⟩) ?_ ?_
  rotate_left
  · intro w'
    go_simp
    with_reducible rfl
  rotate_left
  · simp only [Act.put, List.setIfInBounds_toArray, List.set_cons_zero, List.set_cons_succ, i64_w, i32_w]
    rfl
  refine pure_ (i := 1) (N := some 34) (v := ?_) (a' := ?_) #[true, true, false, false, false, false, false, false, false, false, false, false, false] rfl rfl (by kernel_rfl) (fun _ _ _ h => h) (Or.inl ⟨by rfl, ?_⟩) ?_ ?_
  rotate_left
  · intro w'
    go_simp
    with_reducible rfl
  rotate_left
  · simp only [Act.put, List.setIfInBounds_toArray, List.set_cons_zero, List.set_cons_succ, i64_w, i32_w]
    rfl
  refine pure_ (i := 3) (N := some 36) (v := ?_) (a' := ?_) #[true, true, false, true, false, false, false, false, false, false, false, false, false] rfl rfl (by kernel_rfl) (fun _ _ _ h => h) (Or.inl ⟨by rfl, ?_⟩) ?_ ?_
  rotate_left
  · intro w'
    go_simp
    with_reducible rfl
  rotate_left
  · simp only [Act.put, List.setIfInBounds_toArray, List.set_cons_zero, List.set_cons_succ, i64_w, i32_w]
    rfl
  refine pure_ (i := 4) (N := some 37) (v := ?_) (a' := ?_) #[true, true, false, true, true, false, false, false, false, false, false, false, false] rfl rfl (by kernel_rfl) (fun _ _ _ h => h) (Or.inl ⟨by rfl, ?_⟩) ?_ ?_
  rotate_left
  · intro w'
    go_simp
    with_reducible rfl
  rotate_left
  · simp only [Act.put, List.setIfInBounds_toArray, List.set_cons_zero, List.set_cons_succ, i64_w, i32_w]
    rfl
  refine pure_ (i := 8) (N := some 41) (v := ?_) (a' := ?_) #[true, true, false, true, true, false, false, false, true, false, false, false, false] rfl rfl (by kernel_rfl) (fun _ _ _ h => h) (Or.inl ⟨by rfl, ?_⟩) ?_ ?_
  rotate_left
  · intro w'
    go_simp
    with_reducible rfl
  rotate_left
  · simp only [Act.put, List.setIfInBounds_toArray, List.set_cons_zero, List.set_cons_succ, i64_w, i32_w]
    rfl
  refine take_ (i := 2) (N := some 35) (v := ?_) (a' := ?_) #[true, true, true, true, true, false, false, false, true, false, false, false, false] rfl rfl (by kernel_rfl) (fun _ _ _ h => h) (Or.inl ⟨by rfl, ?_⟩) hHeld ?_ ?_
  rotate_left
  · rintro w' ⟨s0, s1, s2, s3, s4, s5, s6, s7, s8, s9⟩
    go_simp
    with_reducible rfl
  rotate_left
  · simp only [Act.put, List.setIfInBounds_toArray, List.set_cons_zero, List.set_cons_succ, i64_w, i32_w]
    rfl
  refine take_ (i := 9) (N := some 42) (v := ?_) (a' := ?_) #[true, true, true, true, true, false, false, false, true, true, false, false, false] rfl rfl (by kernel_rfl) (fun _ _ _ h => h) (Or.inl ⟨by rfl, ?_⟩) hHeld ?_ ?_
  rotate_left
  · rintro w' ⟨s0, s1, s2, s3, s4, s5, s6, s7, s8, s9⟩
    go_simp
    with_reducible rfl
  rotate_left
  · simp only [Act.put, List.setIfInBounds_toArray, List.set_cons_zero, List.set_cons_succ, i64_w, i32_w]
    rfl
  refine pure_ (i := 10) (N := some 43) (v := ?_) (a' := ?_) #[true, true, true, true, true, false, false, false, true, true, true, false, false] rfl rfl (by kernel_rfl) (fun _ _ _ h => h) (Or.inl ⟨by rfl, ?_⟩) ?_ ?_
  rotate_left
  · intro w'
    go_simp
    with_reducible rfl
  rotate_left
  · simp only [Act.put, List.setIfInBounds_toArray, List.set_cons_zero, List.set_cons_succ, i64_w, i32_w]
    rfl
  refine one_ (i := 5) (N := some 38) #[true, true, true, true, true, true, false, false, true, true, true, false, false] rfl rfl (by kernel_rfl) (by decide) (fun K hK => ?_)
  refine goes_ Try.func18 (by kernel_rfl) rfl #[.agg #[.int .i32 start, .slice A slow.length c], .int .i64 rate, .int .i64 back] (by rfl) rfl rfl (by simp only [List.map_toArray, List.map_cons, List.map_nil]; rfl) ?_
  with_reducible refine (tof_any start A c slow rate back _ (Kd.C_below hC mB) hc).mono ?_
  rintro e w5_4 ⟨rfl, hb⟩
  refine ⟨_, rfl, ?_⟩
  replace m3 := blk_below m3 hb
  replace m5 := blk_below m5 hb
  replace m6 := blk_below m6 hb
  replace mB := below_step mB hb
  clear hb
  refine hK.out _ _ ⟨((blk_cell m3 0).trans rfl), ((blk_cell m3 1).trans rfl), ((blk_cell m5 0).trans rfl), ((blk_cell m5 1).trans rfl), ((blk_cell m5 2).trans rfl), ((blk_cell m5 3).trans rfl), ((blk_cell m5 4).trans rfl), ((blk_cell m5 5).trans rfl), ((blk_cell m5 6).trans rfl), ((blk_cell m5 7).trans rfl)⟩ (fun hHeld => ?_)
  clear hK K
  refine norm_ (a' := ?_) ?_ ?_
  rotate_left
  · show Act.put _ (some 38) _ = _
    simp only [Act.put, List.setIfInBounds_toArray, List.set_cons_zero, List.set_cons_succ, i64_w, i32_w]
    rfl
  refine pure_ (i := 6) (N := some 39) (v := ?_) (a' := ?_) #[true, true, true, true, true, true, true, false, true, true, true, false, false] rfl rfl (by kernel_rfl) (fun _ _ _ h => h) (Or.inl ⟨by rfl, ?_⟩) ?_ ?_
  rotate_left
  · intro w'
    go_simp
    with_reducible rfl
  rotate_left
  · simp only [Act.put, List.setIfInBounds_toArray, List.set_cons_zero, List.set_cons_succ, i64_w, i32_w]
    rfl
  refine one_ (i := 7) (N := some 40) #[true, true, true, true, true, true, true, true, true, true, true, false, false] rfl rfl (by kernel_rfl) (by decide) (fun K hK => ?_)
  refine goes_ Try.func19 (by kernel_rfl) rfl #[.int .i64 (wrap64 (wrap64 (back * 1000000000) + tofI start slow rate back))] (by rfl) rfl rfl (by simp only [List.map_toArray, List.map_cons, List.map_nil]; rfl) ?_
  with_reducible refine (down_any' (wrap64 (wrap64 (back * 1000000000) + tofI start slow rate back)) _).mono ?_
  rintro e w7_4 ⟨rfl, hb⟩
  refine ⟨_, rfl, ?_⟩
  replace m3 := blk_below m3 hb
  replace m5 := blk_below m5 hb
  replace m6 := blk_below m6 hb
  replace mB := below_step mB hb
  clear hb
  refine hK.out _ _ ⟨((blk_cell m3 0).trans rfl), ((blk_cell m3 1).trans rfl), ((blk_cell m5 0).trans rfl), ((blk_cell m5 1).trans rfl), ((blk_cell m5 2).trans rfl), ((blk_cell m5 3).trans rfl), ((blk_cell m5 4).trans rfl), ((blk_cell m5 5).trans rfl), ((blk_cell m5 6).trans rfl), ((blk_cell m5 7).trans rfl)⟩ (fun hHeld => ?_)
  clear hK K
  refine norm_ (a' := ?_) ?_ ?_
  rotate_left
  · show Act.put _ (some 40) _ = _
    simp only [Act.put, List.setIfInBounds_toArray, List.set_cons_zero, List.set_cons_succ, i64_w, i32_w]
    rfl
  refine pure_ (i := 11) (N := some 44) (v := ?_) (a' := ?_) #[true, true, true, true, true, true, true, true, true, true, true, true, false] rfl rfl (by kernel_rfl) (fun _ _ _ h => h) (Or.inl ⟨by rfl, ?_⟩) ?_ ?_
  rotate_left
  · intro w'
    go_simp
    with_reducible rfl
  rotate_left
  · simp only [Act.put, List.setIfInBounds_toArray, List.set_cons_zero, List.set_cons_succ, i64_w, i32_w]
    rfl
  refine pure_ (i := 12) (N := some 10) (v := ?_) (a' := ?_) #[true, true, true, true, true, true, true, true, true, true, true, true, true] rfl rfl (by kernel_rfl) (fun _ _ _ h => h) (Or.inl ⟨by rfl, ?_⟩) ?_ ?_
  rotate_left
  · intro w'
    go_simp
    with_reducible rfl
  rotate_left
  · simp only [Act.put, List.setIfInBounds_toArray, List.set_cons_zero, List.set_cons_succ, i64_w, i32_w]
    rfl
  refine done_ (by kernel_rfl) ?_
  generalize ha_ : wrap64 (downI (wrap64 (wrap64 (back * 1000000000) + tofI start slow rate back)) - wrap64 a3) = answered
  have HA := Lib.hid ha_
  clear ha_
  try clear hHeld
  have hs_w7_4 : w.heap.size ≤ w7_4.heap.size := mB.size
  have c5_0 : ∀ o_, (w7_4.alloc o_).cell? ⟨g5, 0, none⟩ = some (.int .u32 a0) := fun o_ => (blk_cell (blk_alloc m5 o_) 0).trans rfl
  have c5_1 : ∀ o_, (w7_4.alloc o_).cell? ⟨g5, 1, none⟩ = some (.int .u16 a1) := fun o_ => (blk_cell (blk_alloc m5 o_) 1).trans rfl
  have c5_2 : ∀ o_, (w7_4.alloc o_).cell? ⟨g5, 2, none⟩ = some (.int .u16 a2) := fun o_ => (blk_cell (blk_alloc m5 o_) 2).trans rfl
  have c5_3 : ∀ o_, (w7_4.alloc o_).cell? ⟨g5, 3, none⟩ = some (.int .u16 a3) := fun o_ => (blk_cell (blk_alloc m5 o_) 3).trans rfl
  have c5_4 : ∀ o_, (w7_4.alloc o_).cell? ⟨g5, 4, none⟩ = some (.int .u16 b0) := fun o_ => (blk_cell (blk_alloc m5 o_) 4).trans rfl
  have c5_5 : ∀ o_, (w7_4.alloc o_).cell? ⟨g5, 5, none⟩ = some (.int .u16 b1) := fun o_ => (blk_cell (blk_alloc m5 o_) 5).trans rfl
  have c5_6 : ∀ o_, (w7_4.alloc o_).cell? ⟨g5, 6, none⟩ = some (.int .u16 b2) := fun o_ => (blk_cell (blk_alloc m5 o_) 6).trans rfl
  have c5_7 : ∀ o_, (w7_4.alloc o_).cell? ⟨g5, 7, none⟩ = some (.int .u16 b3) := fun o_ => (blk_cell (blk_alloc m5 o_) 7).trans rfl
  have c6_0 : ∀ o_, (w7_4.alloc o_).cell? ⟨g6, 0, none⟩ = some (.int .i64 0) := fun o_ => (blk_cell (blk_alloc m6 o_) 0).trans rfl
  have c6_1 : ∀ o_, (w7_4.alloc o_).cell? ⟨g6, 1, none⟩ = some (.int .i64 0) := fun o_ => (blk_cell (blk_alloc m6 o_) 1).trans rfl
  have c6_2 : ∀ o_, (w7_4.alloc o_).cell? ⟨g6, 2, none⟩ = some (.int .i64 0) := fun o_ => (blk_cell (blk_alloc m6 o_) 2).trans rfl
  have c6_3 : ∀ o_, (w7_4.alloc o_).cell? ⟨g6, 3, none⟩ = some (.int .i64 0) := fun o_ => (blk_cell (blk_alloc m6 o_) 3).trans rfl
  have c6_4 : ∀ o_, (w7_4.alloc o_).cell? ⟨g6, 4, none⟩ = some (.int .i64 0) := fun o_ => (blk_cell (blk_alloc m6 o_) 4).trans rfl
  have c6_5 : ∀ o_, (w7_4.alloc o_).cell? ⟨g6, 5, none⟩ = some (.int .i64 0) := fun o_ => (blk_cell (blk_alloc m6 o_) 5).trans rfl
  have c6_6 : ∀ o_, (w7_4.alloc o_).cell? ⟨g6, 6, none⟩ = some (.int .i64 0) := fun o_ => (blk_cell (blk_alloc m6 o_) 6).trans rfl
  have c6_7 : ∀ o_, (w7_4.alloc o_).cell? ⟨g6, 7, none⟩ = some (.int .i64 0) := fun o_ => (blk_cell (blk_alloc m6 o_) 7).trans rfl
  have f6_0 : ∀ o_, (w7_4.alloc o_).frozen? ⟨g6, 0, none⟩ = false := fun o_ => blk_frozen (blk_alloc m6 o_) 0
  have f6_1 : ∀ o_, (w7_4.alloc o_).frozen? ⟨g6, 1, none⟩ = false := fun o_ => blk_frozen (blk_alloc m6 o_) 1
  have f6_2 : ∀ o_, (w7_4.alloc o_).frozen? ⟨g6, 2, none⟩ = false := fun o_ => blk_frozen (blk_alloc m6 o_) 2
  have f6_3 : ∀ o_, (w7_4.alloc o_).frozen? ⟨g6, 3, none⟩ = false := fun o_ => blk_frozen (blk_alloc m6 o_) 3
  have f6_4 : ∀ o_, (w7_4.alloc o_).frozen? ⟨g6, 4, none⟩ = false := fun o_ => blk_frozen (blk_alloc m6 o_) 4
  have f6_5 : ∀ o_, (w7_4.alloc o_).frozen? ⟨g6, 5, none⟩ = false := fun o_ => blk_frozen (blk_alloc m6 o_) 5
  have f6_6 : ∀ o_, (w7_4.alloc o_).frozen? ⟨g6, 6, none⟩ = false := fun o_ => blk_frozen (blk_alloc m6 o_) 6
  have f6_7 : ∀ o_, (w7_4.alloc o_).frozen? ⟨g6, 7, none⟩ = false := fun o_ => blk_frozen (blk_alloc m6 o_) 7
  have hne6 : g6 ≠ w7_4.heap.size := by have h_ := blk_lt m6; omega
  have hne6b : w7_4.heap.size ≠ g6 := hne6.symm
  by_cases h1 : 0 < (wrap64 (wrap64 a2 - wrap64 b0))
  case pos =>
    have k1_ := eq_true h1
    by_cases h2 : 0 < (wrap64 (wrap64 a3 - wrap64 b2))
    case pos =>
      have k2_ := eq_true h2
      go_wp2
      have p0_ : Blk (w7_4.alloc (.cells #[.int .i64 sent, .int .i64 heard, .int .i64 answered, .int .i64 back, .int .i64 (wrap64 (wrap64 a2 - wrap64 b0)), .int .i64 (wrap64 (wrap64 (wrap64 a2 + 1) + wrap64 b1)), .int .i64 (wrap64 (wrap64 a3 - wrap64 b2)), .int .i64 (wrap64 (wrap64 (wrap64 a3 + 1) + wrap64 b3))] 46)) g6 #[.int .i64 0, .int .i64 0, .int .i64 0, .int .i64 0, .int .i64 0, .int .i64 0, .int .i64 0, .int .i64 0] 46 := blk_alloc m6 _
      have q0_ : Below w.heap.size w (w7_4.alloc (.cells #[.int .i64 sent, .int .i64 heard, .int .i64 answered, .int .i64 back, .int .i64 (wrap64 (wrap64 a2 - wrap64 b0)), .int .i64 (wrap64 (wrap64 (wrap64 a2 + 1) + wrap64 b1)), .int .i64 (wrap64 (wrap64 a3 - wrap64 b2)), .int .i64 (wrap64 (wrap64 (wrap64 a3 + 1) + wrap64 b3))] 46)) := below_alloc mB _
      have p1_ : Blk ((w7_4.alloc (.cells #[.int .i64 sent, .int .i64 heard, .int .i64 answered, .int .i64 back, .int .i64 (wrap64 (wrap64 a2 - wrap64 b0)), .int .i64 (wrap64 (wrap64 (wrap64 a2 + 1) + wrap64 b1)), .int .i64 (wrap64 (wrap64 a3 - wrap64 b2)), .int .i64 (wrap64 (wrap64 (wrap64 a3 + 1) + wrap64 b3))] 46)).setCell ⟨g6, 0, none⟩ (.int .i64 sent)) g6 #[.int .i64 sent, .int .i64 0, .int .i64 0, .int .i64 0, .int .i64 0, .int .i64 0, .int .i64 0, .int .i64 0] 46 := blk_put p0_ 0 _ rfl
      have q1_ : Below w.heap.size w ((w7_4.alloc (.cells #[.int .i64 sent, .int .i64 heard, .int .i64 answered, .int .i64 back, .int .i64 (wrap64 (wrap64 a2 - wrap64 b0)), .int .i64 (wrap64 (wrap64 (wrap64 a2 + 1) + wrap64 b1)), .int .i64 (wrap64 (wrap64 a3 - wrap64 b2)), .int .i64 (wrap64 (wrap64 (wrap64 a3 + 1) + wrap64 b3))] 46)).setCell ⟨g6, 0, none⟩ (.int .i64 sent)) := q0_.setCell (p := ⟨g6, 0, none⟩) hG6 _
      clear p0_ q0_
      have p2_ : Blk (((w7_4.alloc (.cells #[.int .i64 sent, .int .i64 heard, .int .i64 answered, .int .i64 back, .int .i64 (wrap64 (wrap64 a2 - wrap64 b0)), .int .i64 (wrap64 (wrap64 (wrap64 a2 + 1) + wrap64 b1)), .int .i64 (wrap64 (wrap64 a3 - wrap64 b2)), .int .i64 (wrap64 (wrap64 (wrap64 a3 + 1) + wrap64 b3))] 46)).setCell ⟨g6, 0, none⟩ (.int .i64 sent)).setCell ⟨g6, 1, none⟩ (.int .i64 heard)) g6 #[.int .i64 sent, .int .i64 heard, .int .i64 0, .int .i64 0, .int .i64 0, .int .i64 0, .int .i64 0, .int .i64 0] 46 := blk_put p1_ 1 _ rfl
      have q2_ : Below w.heap.size w (((w7_4.alloc (.cells #[.int .i64 sent, .int .i64 heard, .int .i64 answered, .int .i64 back, .int .i64 (wrap64 (wrap64 a2 - wrap64 b0)), .int .i64 (wrap64 (wrap64 (wrap64 a2 + 1) + wrap64 b1)), .int .i64 (wrap64 (wrap64 a3 - wrap64 b2)), .int .i64 (wrap64 (wrap64 (wrap64 a3 + 1) + wrap64 b3))] 46)).setCell ⟨g6, 0, none⟩ (.int .i64 sent)).setCell ⟨g6, 1, none⟩ (.int .i64 heard)) := q1_.setCell (p := ⟨g6, 1, none⟩) hG6 _
      clear p1_ q1_
      have p3_ : Blk ((((w7_4.alloc (.cells #[.int .i64 sent, .int .i64 heard, .int .i64 answered, .int .i64 back, .int .i64 (wrap64 (wrap64 a2 - wrap64 b0)), .int .i64 (wrap64 (wrap64 (wrap64 a2 + 1) + wrap64 b1)), .int .i64 (wrap64 (wrap64 a3 - wrap64 b2)), .int .i64 (wrap64 (wrap64 (wrap64 a3 + 1) + wrap64 b3))] 46)).setCell ⟨g6, 0, none⟩ (.int .i64 sent)).setCell ⟨g6, 1, none⟩ (.int .i64 heard)).setCell ⟨g6, 2, none⟩ (.int .i64 answered)) g6 #[.int .i64 sent, .int .i64 heard, .int .i64 answered, .int .i64 0, .int .i64 0, .int .i64 0, .int .i64 0, .int .i64 0] 46 := blk_put p2_ 2 _ rfl
      have q3_ : Below w.heap.size w ((((w7_4.alloc (.cells #[.int .i64 sent, .int .i64 heard, .int .i64 answered, .int .i64 back, .int .i64 (wrap64 (wrap64 a2 - wrap64 b0)), .int .i64 (wrap64 (wrap64 (wrap64 a2 + 1) + wrap64 b1)), .int .i64 (wrap64 (wrap64 a3 - wrap64 b2)), .int .i64 (wrap64 (wrap64 (wrap64 a3 + 1) + wrap64 b3))] 46)).setCell ⟨g6, 0, none⟩ (.int .i64 sent)).setCell ⟨g6, 1, none⟩ (.int .i64 heard)).setCell ⟨g6, 2, none⟩ (.int .i64 answered)) := q2_.setCell (p := ⟨g6, 2, none⟩) hG6 _
      clear p2_ q2_
      have p4_ : Blk (((((w7_4.alloc (.cells #[.int .i64 sent, .int .i64 heard, .int .i64 answered, .int .i64 back, .int .i64 (wrap64 (wrap64 a2 - wrap64 b0)), .int .i64 (wrap64 (wrap64 (wrap64 a2 + 1) + wrap64 b1)), .int .i64 (wrap64 (wrap64 a3 - wrap64 b2)), .int .i64 (wrap64 (wrap64 (wrap64 a3 + 1) + wrap64 b3))] 46)).setCell ⟨g6, 0, none⟩ (.int .i64 sent)).setCell ⟨g6, 1, none⟩ (.int .i64 heard)).setCell ⟨g6, 2, none⟩ (.int .i64 answered)).setCell ⟨g6, 3, none⟩ (.int .i64 back)) g6 #[.int .i64 sent, .int .i64 heard, .int .i64 answered, .int .i64 back, .int .i64 0, .int .i64 0, .int .i64 0, .int .i64 0] 46 := blk_put p3_ 3 _ rfl
      have q4_ : Below w.heap.size w (((((w7_4.alloc (.cells #[.int .i64 sent, .int .i64 heard, .int .i64 answered, .int .i64 back, .int .i64 (wrap64 (wrap64 a2 - wrap64 b0)), .int .i64 (wrap64 (wrap64 (wrap64 a2 + 1) + wrap64 b1)), .int .i64 (wrap64 (wrap64 a3 - wrap64 b2)), .int .i64 (wrap64 (wrap64 (wrap64 a3 + 1) + wrap64 b3))] 46)).setCell ⟨g6, 0, none⟩ (.int .i64 sent)).setCell ⟨g6, 1, none⟩ (.int .i64 heard)).setCell ⟨g6, 2, none⟩ (.int .i64 answered)).setCell ⟨g6, 3, none⟩ (.int .i64 back)) := q3_.setCell (p := ⟨g6, 3, none⟩) hG6 _
      clear p3_ q3_
      have p5_ : Blk ((((((w7_4.alloc (.cells #[.int .i64 sent, .int .i64 heard, .int .i64 answered, .int .i64 back, .int .i64 (wrap64 (wrap64 a2 - wrap64 b0)), .int .i64 (wrap64 (wrap64 (wrap64 a2 + 1) + wrap64 b1)), .int .i64 (wrap64 (wrap64 a3 - wrap64 b2)), .int .i64 (wrap64 (wrap64 (wrap64 a3 + 1) + wrap64 b3))] 46)).setCell ⟨g6, 0, none⟩ (.int .i64 sent)).setCell ⟨g6, 1, none⟩ (.int .i64 heard)).setCell ⟨g6, 2, none⟩ (.int .i64 answered)).setCell ⟨g6, 3, none⟩ (.int .i64 back)).setCell ⟨g6, 4, none⟩ (.int .i64 (wrap64 (wrap64 a2 - wrap64 b0)))) g6 #[.int .i64 sent, .int .i64 heard, .int .i64 answered, .int .i64 back, .int .i64 (wrap64 (wrap64 a2 - wrap64 b0)), .int .i64 0, .int .i64 0, .int .i64 0] 46 := blk_put p4_ 4 _ rfl
      have q5_ : Below w.heap.size w ((((((w7_4.alloc (.cells #[.int .i64 sent, .int .i64 heard, .int .i64 answered, .int .i64 back, .int .i64 (wrap64 (wrap64 a2 - wrap64 b0)), .int .i64 (wrap64 (wrap64 (wrap64 a2 + 1) + wrap64 b1)), .int .i64 (wrap64 (wrap64 a3 - wrap64 b2)), .int .i64 (wrap64 (wrap64 (wrap64 a3 + 1) + wrap64 b3))] 46)).setCell ⟨g6, 0, none⟩ (.int .i64 sent)).setCell ⟨g6, 1, none⟩ (.int .i64 heard)).setCell ⟨g6, 2, none⟩ (.int .i64 answered)).setCell ⟨g6, 3, none⟩ (.int .i64 back)).setCell ⟨g6, 4, none⟩ (.int .i64 (wrap64 (wrap64 a2 - wrap64 b0)))) := q4_.setCell (p := ⟨g6, 4, none⟩) hG6 _
      clear p4_ q4_
      have p6_ : Blk (((((((w7_4.alloc (.cells #[.int .i64 sent, .int .i64 heard, .int .i64 answered, .int .i64 back, .int .i64 (wrap64 (wrap64 a2 - wrap64 b0)), .int .i64 (wrap64 (wrap64 (wrap64 a2 + 1) + wrap64 b1)), .int .i64 (wrap64 (wrap64 a3 - wrap64 b2)), .int .i64 (wrap64 (wrap64 (wrap64 a3 + 1) + wrap64 b3))] 46)).setCell ⟨g6, 0, none⟩ (.int .i64 sent)).setCell ⟨g6, 1, none⟩ (.int .i64 heard)).setCell ⟨g6, 2, none⟩ (.int .i64 answered)).setCell ⟨g6, 3, none⟩ (.int .i64 back)).setCell ⟨g6, 4, none⟩ (.int .i64 (wrap64 (wrap64 a2 - wrap64 b0)))).setCell ⟨g6, 5, none⟩ (.int .i64 (wrap64 (wrap64 (wrap64 a2 + 1) + wrap64 b1)))) g6 #[.int .i64 sent, .int .i64 heard, .int .i64 answered, .int .i64 back, .int .i64 (wrap64 (wrap64 a2 - wrap64 b0)), .int .i64 (wrap64 (wrap64 (wrap64 a2 + 1) + wrap64 b1)), .int .i64 0, .int .i64 0] 46 := blk_put p5_ 5 _ rfl
      have q6_ : Below w.heap.size w (((((((w7_4.alloc (.cells #[.int .i64 sent, .int .i64 heard, .int .i64 answered, .int .i64 back, .int .i64 (wrap64 (wrap64 a2 - wrap64 b0)), .int .i64 (wrap64 (wrap64 (wrap64 a2 + 1) + wrap64 b1)), .int .i64 (wrap64 (wrap64 a3 - wrap64 b2)), .int .i64 (wrap64 (wrap64 (wrap64 a3 + 1) + wrap64 b3))] 46)).setCell ⟨g6, 0, none⟩ (.int .i64 sent)).setCell ⟨g6, 1, none⟩ (.int .i64 heard)).setCell ⟨g6, 2, none⟩ (.int .i64 answered)).setCell ⟨g6, 3, none⟩ (.int .i64 back)).setCell ⟨g6, 4, none⟩ (.int .i64 (wrap64 (wrap64 a2 - wrap64 b0)))).setCell ⟨g6, 5, none⟩ (.int .i64 (wrap64 (wrap64 (wrap64 a2 + 1) + wrap64 b1)))) := q5_.setCell (p := ⟨g6, 5, none⟩) hG6 _
      clear p5_ q5_
      have p7_ : Blk ((((((((w7_4.alloc (.cells #[.int .i64 sent, .int .i64 heard, .int .i64 answered, .int .i64 back, .int .i64 (wrap64 (wrap64 a2 - wrap64 b0)), .int .i64 (wrap64 (wrap64 (wrap64 a2 + 1) + wrap64 b1)), .int .i64 (wrap64 (wrap64 a3 - wrap64 b2)), .int .i64 (wrap64 (wrap64 (wrap64 a3 + 1) + wrap64 b3))] 46)).setCell ⟨g6, 0, none⟩ (.int .i64 sent)).setCell ⟨g6, 1, none⟩ (.int .i64 heard)).setCell ⟨g6, 2, none⟩ (.int .i64 answered)).setCell ⟨g6, 3, none⟩ (.int .i64 back)).setCell ⟨g6, 4, none⟩ (.int .i64 (wrap64 (wrap64 a2 - wrap64 b0)))).setCell ⟨g6, 5, none⟩ (.int .i64 (wrap64 (wrap64 (wrap64 a2 + 1) + wrap64 b1)))).setCell ⟨g6, 6, none⟩ (.int .i64 (wrap64 (wrap64 a3 - wrap64 b2)))) g6 #[.int .i64 sent, .int .i64 heard, .int .i64 answered, .int .i64 back, .int .i64 (wrap64 (wrap64 a2 - wrap64 b0)), .int .i64 (wrap64 (wrap64 (wrap64 a2 + 1) + wrap64 b1)), .int .i64 (wrap64 (wrap64 a3 - wrap64 b2)), .int .i64 0] 46 := blk_put p6_ 6 _ rfl
      have q7_ : Below w.heap.size w ((((((((w7_4.alloc (.cells #[.int .i64 sent, .int .i64 heard, .int .i64 answered, .int .i64 back, .int .i64 (wrap64 (wrap64 a2 - wrap64 b0)), .int .i64 (wrap64 (wrap64 (wrap64 a2 + 1) + wrap64 b1)), .int .i64 (wrap64 (wrap64 a3 - wrap64 b2)), .int .i64 (wrap64 (wrap64 (wrap64 a3 + 1) + wrap64 b3))] 46)).setCell ⟨g6, 0, none⟩ (.int .i64 sent)).setCell ⟨g6, 1, none⟩ (.int .i64 heard)).setCell ⟨g6, 2, none⟩ (.int .i64 answered)).setCell ⟨g6, 3, none⟩ (.int .i64 back)).setCell ⟨g6, 4, none⟩ (.int .i64 (wrap64 (wrap64 a2 - wrap64 b0)))).setCell ⟨g6, 5, none⟩ (.int .i64 (wrap64 (wrap64 (wrap64 a2 + 1) + wrap64 b1)))).setCell ⟨g6, 6, none⟩ (.int .i64 (wrap64 (wrap64 a3 - wrap64 b2)))) := q6_.setCell (p := ⟨g6, 6, none⟩) hG6 _
      clear p6_ q6_
      have p8_ : Blk (((((((((w7_4.alloc (.cells #[.int .i64 sent, .int .i64 heard, .int .i64 answered, .int .i64 back, .int .i64 (wrap64 (wrap64 a2 - wrap64 b0)), .int .i64 (wrap64 (wrap64 (wrap64 a2 + 1) + wrap64 b1)), .int .i64 (wrap64 (wrap64 a3 - wrap64 b2)), .int .i64 (wrap64 (wrap64 (wrap64 a3 + 1) + wrap64 b3))] 46)).setCell ⟨g6, 0, none⟩ (.int .i64 sent)).setCell ⟨g6, 1, none⟩ (.int .i64 heard)).setCell ⟨g6, 2, none⟩ (.int .i64 answered)).setCell ⟨g6, 3, none⟩ (.int .i64 back)).setCell ⟨g6, 4, none⟩ (.int .i64 (wrap64 (wrap64 a2 - wrap64 b0)))).setCell ⟨g6, 5, none⟩ (.int .i64 (wrap64 (wrap64 (wrap64 a2 + 1) + wrap64 b1)))).setCell ⟨g6, 6, none⟩ (.int .i64 (wrap64 (wrap64 a3 - wrap64 b2)))).setCell ⟨g6, 7, none⟩ (.int .i64 (wrap64 (wrap64 (wrap64 a3 + 1) + wrap64 b3)))) g6 #[.int .i64 sent, .int .i64 heard, .int .i64 answered, .int .i64 back, .int .i64 (wrap64 (wrap64 a2 - wrap64 b0)), .int .i64 (wrap64 (wrap64 (wrap64 a2 + 1) + wrap64 b1)), .int .i64 (wrap64 (wrap64 a3 - wrap64 b2)), .int .i64 (wrap64 (wrap64 (wrap64 a3 + 1) + wrap64 b3))] 46 := blk_put p7_ 7 _ rfl
      have q8_ : Below w.heap.size w (((((((((w7_4.alloc (.cells #[.int .i64 sent, .int .i64 heard, .int .i64 answered, .int .i64 back, .int .i64 (wrap64 (wrap64 a2 - wrap64 b0)), .int .i64 (wrap64 (wrap64 (wrap64 a2 + 1) + wrap64 b1)), .int .i64 (wrap64 (wrap64 a3 - wrap64 b2)), .int .i64 (wrap64 (wrap64 (wrap64 a3 + 1) + wrap64 b3))] 46)).setCell ⟨g6, 0, none⟩ (.int .i64 sent)).setCell ⟨g6, 1, none⟩ (.int .i64 heard)).setCell ⟨g6, 2, none⟩ (.int .i64 answered)).setCell ⟨g6, 3, none⟩ (.int .i64 back)).setCell ⟨g6, 4, none⟩ (.int .i64 (wrap64 (wrap64 a2 - wrap64 b0)))).setCell ⟨g6, 5, none⟩ (.int .i64 (wrap64 (wrap64 (wrap64 a2 + 1) + wrap64 b1)))).setCell ⟨g6, 6, none⟩ (.int .i64 (wrap64 (wrap64 a3 - wrap64 b2)))).setCell ⟨g6, 7, none⟩ (.int .i64 (wrap64 (wrap64 (wrap64 a3 + 1) + wrap64 b3)))) := q7_.setCell (p := ⟨g6, 7, none⟩) hG6 _
      clear p7_ q7_
      generalize hE_ : (((((((((w7_4.alloc (.cells #[.int .i64 sent, .int .i64 heard, .int .i64 answered, .int .i64 back, .int .i64 (wrap64 (wrap64 a2 - wrap64 b0)), .int .i64 (wrap64 (wrap64 (wrap64 a2 + 1) + wrap64 b1)), .int .i64 (wrap64 (wrap64 a3 - wrap64 b2)), .int .i64 (wrap64 (wrap64 (wrap64 a3 + 1) + wrap64 b3))] 46)).setCell ⟨g6, 0, none⟩ (.int .i64 sent)).setCell ⟨g6, 1, none⟩ (.int .i64 heard)).setCell ⟨g6, 2, none⟩ (.int .i64 answered)).setCell ⟨g6, 3, none⟩ (.int .i64 back)).setCell ⟨g6, 4, none⟩ (.int .i64 (wrap64 (wrap64 a2 - wrap64 b0)))).setCell ⟨g6, 5, none⟩ (.int .i64 (wrap64 (wrap64 (wrap64 a2 + 1) + wrap64 b1)))).setCell ⟨g6, 6, none⟩ (.int .i64 (wrap64 (wrap64 a3 - wrap64 b2)))).setCell ⟨g6, 7, none⟩ (.int .i64 (wrap64 (wrap64 (wrap64 a3 + 1) + wrap64 b3)))) = WF at p8_ q8_ ⊢
      clear hE_
      have HL1 : Hid (xLo a2 b0 = (wrap64 (wrap64 a2 - wrap64 b0))) := Lib.hid (by unfold xLo mx; first | exact if_pos h1 | exact if_neg (Int.not_lt.2 h1))
      have HL2 : Hid (xLo a3 b2 = (wrap64 (wrap64 a3 - wrap64 b2))) := Lib.hid (by unfold xLo mx; first | exact if_pos h2 | exact if_neg (Int.not_lt.2 h2))
      exact bodyPost_ret (results_cell_row rfl _ _ g6 46 #[.int .i64 sent, .int .i64 heard, .int .i64 answered, .int .i64 back, .int .i64 (wrap64 (wrap64 a2 - wrap64 b0)), .int .i64 (wrap64 (wrap64 (wrap64 a2 + 1) + wrap64 b1)), .int .i64 (wrap64 (wrap64 a3 - wrap64 b2)), .int .i64 (wrap64 (wrap64 (wrap64 a3 + 1) + wrap64 b3))] (0, 0) _ rfl p8_ Try.underlying46 rfl (by kernel_rfl)) rfl ⟨by rw [HL1.out, HL2.out]; unfold xHeard xAns xHi xBack xSent; rw [HS.out, HB_.out, HH.out, HA.out], q8_⟩
    case neg =>
      have k2_ := eq_false h2
      go_wp2
      have p0_ : Blk (w7_4.alloc (.cells #[.int .i64 sent, .int .i64 heard, .int .i64 answered, .int .i64 back, .int .i64 (wrap64 (wrap64 a2 - wrap64 b0)), .int .i64 (wrap64 (wrap64 (wrap64 a2 + 1) + wrap64 b1)), .int .i64 0, .int .i64 (wrap64 (wrap64 (wrap64 a3 + 1) + wrap64 b3))] 46)) g6 #[.int .i64 0, .int .i64 0, .int .i64 0, .int .i64 0, .int .i64 0, .int .i64 0, .int .i64 0, .int .i64 0] 46 := blk_alloc m6 _
      have q0_ : Below w.heap.size w (w7_4.alloc (.cells #[.int .i64 sent, .int .i64 heard, .int .i64 answered, .int .i64 back, .int .i64 (wrap64 (wrap64 a2 - wrap64 b0)), .int .i64 (wrap64 (wrap64 (wrap64 a2 + 1) + wrap64 b1)), .int .i64 0, .int .i64 (wrap64 (wrap64 (wrap64 a3 + 1) + wrap64 b3))] 46)) := below_alloc mB _
      have p1_ : Blk ((w7_4.alloc (.cells #[.int .i64 sent, .int .i64 heard, .int .i64 answered, .int .i64 back, .int .i64 (wrap64 (wrap64 a2 - wrap64 b0)), .int .i64 (wrap64 (wrap64 (wrap64 a2 + 1) + wrap64 b1)), .int .i64 0, .int .i64 (wrap64 (wrap64 (wrap64 a3 + 1) + wrap64 b3))] 46)).setCell ⟨g6, 0, none⟩ (.int .i64 sent)) g6 #[.int .i64 sent, .int .i64 0, .int .i64 0, .int .i64 0, .int .i64 0, .int .i64 0, .int .i64 0, .int .i64 0] 46 := blk_put p0_ 0 _ rfl
      have q1_ : Below w.heap.size w ((w7_4.alloc (.cells #[.int .i64 sent, .int .i64 heard, .int .i64 answered, .int .i64 back, .int .i64 (wrap64 (wrap64 a2 - wrap64 b0)), .int .i64 (wrap64 (wrap64 (wrap64 a2 + 1) + wrap64 b1)), .int .i64 0, .int .i64 (wrap64 (wrap64 (wrap64 a3 + 1) + wrap64 b3))] 46)).setCell ⟨g6, 0, none⟩ (.int .i64 sent)) := q0_.setCell (p := ⟨g6, 0, none⟩) hG6 _
      clear p0_ q0_
      have p2_ : Blk (((w7_4.alloc (.cells #[.int .i64 sent, .int .i64 heard, .int .i64 answered, .int .i64 back, .int .i64 (wrap64 (wrap64 a2 - wrap64 b0)), .int .i64 (wrap64 (wrap64 (wrap64 a2 + 1) + wrap64 b1)), .int .i64 0, .int .i64 (wrap64 (wrap64 (wrap64 a3 + 1) + wrap64 b3))] 46)).setCell ⟨g6, 0, none⟩ (.int .i64 sent)).setCell ⟨g6, 1, none⟩ (.int .i64 heard)) g6 #[.int .i64 sent, .int .i64 heard, .int .i64 0, .int .i64 0, .int .i64 0, .int .i64 0, .int .i64 0, .int .i64 0] 46 := blk_put p1_ 1 _ rfl
      have q2_ : Below w.heap.size w (((w7_4.alloc (.cells #[.int .i64 sent, .int .i64 heard, .int .i64 answered, .int .i64 back, .int .i64 (wrap64 (wrap64 a2 - wrap64 b0)), .int .i64 (wrap64 (wrap64 (wrap64 a2 + 1) + wrap64 b1)), .int .i64 0, .int .i64 (wrap64 (wrap64 (wrap64 a3 + 1) + wrap64 b3))] 46)).setCell ⟨g6, 0, none⟩ (.int .i64 sent)).setCell ⟨g6, 1, none⟩ (.int .i64 heard)) := q1_.setCell (p := ⟨g6, 1, none⟩) hG6 _
      clear p1_ q1_
      have p3_ : Blk ((((w7_4.alloc (.cells #[.int .i64 sent, .int .i64 heard, .int .i64 answered, .int .i64 back, .int .i64 (wrap64 (wrap64 a2 - wrap64 b0)), .int .i64 (wrap64 (wrap64 (wrap64 a2 + 1) + wrap64 b1)), .int .i64 0, .int .i64 (wrap64 (wrap64 (wrap64 a3 + 1) + wrap64 b3))] 46)).setCell ⟨g6, 0, none⟩ (.int .i64 sent)).setCell ⟨g6, 1, none⟩ (.int .i64 heard)).setCell ⟨g6, 2, none⟩ (.int .i64 answered)) g6 #[.int .i64 sent, .int .i64 heard, .int .i64 answered, .int .i64 0, .int .i64 0, .int .i64 0, .int .i64 0, .int .i64 0] 46 := blk_put p2_ 2 _ rfl
      have q3_ : Below w.heap.size w ((((w7_4.alloc (.cells #[.int .i64 sent, .int .i64 heard, .int .i64 answered, .int .i64 back, .int .i64 (wrap64 (wrap64 a2 - wrap64 b0)), .int .i64 (wrap64 (wrap64 (wrap64 a2 + 1) + wrap64 b1)), .int .i64 0, .int .i64 (wrap64 (wrap64 (wrap64 a3 + 1) + wrap64 b3))] 46)).setCell ⟨g6, 0, none⟩ (.int .i64 sent)).setCell ⟨g6, 1, none⟩ (.int .i64 heard)).setCell ⟨g6, 2, none⟩ (.int .i64 answered)) := q2_.setCell (p := ⟨g6, 2, none⟩) hG6 _
      clear p2_ q2_
      have p4_ : Blk (((((w7_4.alloc (.cells #[.int .i64 sent, .int .i64 heard, .int .i64 answered, .int .i64 back, .int .i64 (wrap64 (wrap64 a2 - wrap64 b0)), .int .i64 (wrap64 (wrap64 (wrap64 a2 + 1) + wrap64 b1)), .int .i64 0, .int .i64 (wrap64 (wrap64 (wrap64 a3 + 1) + wrap64 b3))] 46)).setCell ⟨g6, 0, none⟩ (.int .i64 sent)).setCell ⟨g6, 1, none⟩ (.int .i64 heard)).setCell ⟨g6, 2, none⟩ (.int .i64 answered)).setCell ⟨g6, 3, none⟩ (.int .i64 back)) g6 #[.int .i64 sent, .int .i64 heard, .int .i64 answered, .int .i64 back, .int .i64 0, .int .i64 0, .int .i64 0, .int .i64 0] 46 := blk_put p3_ 3 _ rfl
      have q4_ : Below w.heap.size w (((((w7_4.alloc (.cells #[.int .i64 sent, .int .i64 heard, .int .i64 answered, .int .i64 back, .int .i64 (wrap64 (wrap64 a2 - wrap64 b0)), .int .i64 (wrap64 (wrap64 (wrap64 a2 + 1) + wrap64 b1)), .int .i64 0, .int .i64 (wrap64 (wrap64 (wrap64 a3 + 1) + wrap64 b3))] 46)).setCell ⟨g6, 0, none⟩ (.int .i64 sent)).setCell ⟨g6, 1, none⟩ (.int .i64 heard)).setCell ⟨g6, 2, none⟩ (.int .i64 answered)).setCell ⟨g6, 3, none⟩ (.int .i64 back)) := q3_.setCell (p := ⟨g6, 3, none⟩) hG6 _
      clear p3_ q3_
      have p5_ : Blk ((((((w7_4.alloc (.cells #[.int .i64 sent, .int .i64 heard, .int .i64 answered, .int .i64 back, .int .i64 (wrap64 (wrap64 a2 - wrap64 b0)), .int .i64 (wrap64 (wrap64 (wrap64 a2 + 1) + wrap64 b1)), .int .i64 0, .int .i64 (wrap64 (wrap64 (wrap64 a3 + 1) + wrap64 b3))] 46)).setCell ⟨g6, 0, none⟩ (.int .i64 sent)).setCell ⟨g6, 1, none⟩ (.int .i64 heard)).setCell ⟨g6, 2, none⟩ (.int .i64 answered)).setCell ⟨g6, 3, none⟩ (.int .i64 back)).setCell ⟨g6, 4, none⟩ (.int .i64 (wrap64 (wrap64 a2 - wrap64 b0)))) g6 #[.int .i64 sent, .int .i64 heard, .int .i64 answered, .int .i64 back, .int .i64 (wrap64 (wrap64 a2 - wrap64 b0)), .int .i64 0, .int .i64 0, .int .i64 0] 46 := blk_put p4_ 4 _ rfl
      have q5_ : Below w.heap.size w ((((((w7_4.alloc (.cells #[.int .i64 sent, .int .i64 heard, .int .i64 answered, .int .i64 back, .int .i64 (wrap64 (wrap64 a2 - wrap64 b0)), .int .i64 (wrap64 (wrap64 (wrap64 a2 + 1) + wrap64 b1)), .int .i64 0, .int .i64 (wrap64 (wrap64 (wrap64 a3 + 1) + wrap64 b3))] 46)).setCell ⟨g6, 0, none⟩ (.int .i64 sent)).setCell ⟨g6, 1, none⟩ (.int .i64 heard)).setCell ⟨g6, 2, none⟩ (.int .i64 answered)).setCell ⟨g6, 3, none⟩ (.int .i64 back)).setCell ⟨g6, 4, none⟩ (.int .i64 (wrap64 (wrap64 a2 - wrap64 b0)))) := q4_.setCell (p := ⟨g6, 4, none⟩) hG6 _
      clear p4_ q4_
      have p6_ : Blk (((((((w7_4.alloc (.cells #[.int .i64 sent, .int .i64 heard, .int .i64 answered, .int .i64 back, .int .i64 (wrap64 (wrap64 a2 - wrap64 b0)), .int .i64 (wrap64 (wrap64 (wrap64 a2 + 1) + wrap64 b1)), .int .i64 0, .int .i64 (wrap64 (wrap64 (wrap64 a3 + 1) + wrap64 b3))] 46)).setCell ⟨g6, 0, none⟩ (.int .i64 sent)).setCell ⟨g6, 1, none⟩ (.int .i64 heard)).setCell ⟨g6, 2, none⟩ (.int .i64 answered)).setCell ⟨g6, 3, none⟩ (.int .i64 back)).setCell ⟨g6, 4, none⟩ (.int .i64 (wrap64 (wrap64 a2 - wrap64 b0)))).setCell ⟨g6, 5, none⟩ (.int .i64 (wrap64 (wrap64 (wrap64 a2 + 1) + wrap64 b1)))) g6 #[.int .i64 sent, .int .i64 heard, .int .i64 answered, .int .i64 back, .int .i64 (wrap64 (wrap64 a2 - wrap64 b0)), .int .i64 (wrap64 (wrap64 (wrap64 a2 + 1) + wrap64 b1)), .int .i64 0, .int .i64 0] 46 := blk_put p5_ 5 _ rfl
      have q6_ : Below w.heap.size w (((((((w7_4.alloc (.cells #[.int .i64 sent, .int .i64 heard, .int .i64 answered, .int .i64 back, .int .i64 (wrap64 (wrap64 a2 - wrap64 b0)), .int .i64 (wrap64 (wrap64 (wrap64 a2 + 1) + wrap64 b1)), .int .i64 0, .int .i64 (wrap64 (wrap64 (wrap64 a3 + 1) + wrap64 b3))] 46)).setCell ⟨g6, 0, none⟩ (.int .i64 sent)).setCell ⟨g6, 1, none⟩ (.int .i64 heard)).setCell ⟨g6, 2, none⟩ (.int .i64 answered)).setCell ⟨g6, 3, none⟩ (.int .i64 back)).setCell ⟨g6, 4, none⟩ (.int .i64 (wrap64 (wrap64 a2 - wrap64 b0)))).setCell ⟨g6, 5, none⟩ (.int .i64 (wrap64 (wrap64 (wrap64 a2 + 1) + wrap64 b1)))) := q5_.setCell (p := ⟨g6, 5, none⟩) hG6 _
      clear p5_ q5_
      have p7_ : Blk ((((((((w7_4.alloc (.cells #[.int .i64 sent, .int .i64 heard, .int .i64 answered, .int .i64 back, .int .i64 (wrap64 (wrap64 a2 - wrap64 b0)), .int .i64 (wrap64 (wrap64 (wrap64 a2 + 1) + wrap64 b1)), .int .i64 0, .int .i64 (wrap64 (wrap64 (wrap64 a3 + 1) + wrap64 b3))] 46)).setCell ⟨g6, 0, none⟩ (.int .i64 sent)).setCell ⟨g6, 1, none⟩ (.int .i64 heard)).setCell ⟨g6, 2, none⟩ (.int .i64 answered)).setCell ⟨g6, 3, none⟩ (.int .i64 back)).setCell ⟨g6, 4, none⟩ (.int .i64 (wrap64 (wrap64 a2 - wrap64 b0)))).setCell ⟨g6, 5, none⟩ (.int .i64 (wrap64 (wrap64 (wrap64 a2 + 1) + wrap64 b1)))).setCell ⟨g6, 6, none⟩ (.int .i64 0)) g6 #[.int .i64 sent, .int .i64 heard, .int .i64 answered, .int .i64 back, .int .i64 (wrap64 (wrap64 a2 - wrap64 b0)), .int .i64 (wrap64 (wrap64 (wrap64 a2 + 1) + wrap64 b1)), .int .i64 0, .int .i64 0] 46 := blk_put p6_ 6 _ rfl
      have q7_ : Below w.heap.size w ((((((((w7_4.alloc (.cells #[.int .i64 sent, .int .i64 heard, .int .i64 answered, .int .i64 back, .int .i64 (wrap64 (wrap64 a2 - wrap64 b0)), .int .i64 (wrap64 (wrap64 (wrap64 a2 + 1) + wrap64 b1)), .int .i64 0, .int .i64 (wrap64 (wrap64 (wrap64 a3 + 1) + wrap64 b3))] 46)).setCell ⟨g6, 0, none⟩ (.int .i64 sent)).setCell ⟨g6, 1, none⟩ (.int .i64 heard)).setCell ⟨g6, 2, none⟩ (.int .i64 answered)).setCell ⟨g6, 3, none⟩ (.int .i64 back)).setCell ⟨g6, 4, none⟩ (.int .i64 (wrap64 (wrap64 a2 - wrap64 b0)))).setCell ⟨g6, 5, none⟩ (.int .i64 (wrap64 (wrap64 (wrap64 a2 + 1) + wrap64 b1)))).setCell ⟨g6, 6, none⟩ (.int .i64 0)) := q6_.setCell (p := ⟨g6, 6, none⟩) hG6 _
      clear p6_ q6_
      have p8_ : Blk (((((((((w7_4.alloc (.cells #[.int .i64 sent, .int .i64 heard, .int .i64 answered, .int .i64 back, .int .i64 (wrap64 (wrap64 a2 - wrap64 b0)), .int .i64 (wrap64 (wrap64 (wrap64 a2 + 1) + wrap64 b1)), .int .i64 0, .int .i64 (wrap64 (wrap64 (wrap64 a3 + 1) + wrap64 b3))] 46)).setCell ⟨g6, 0, none⟩ (.int .i64 sent)).setCell ⟨g6, 1, none⟩ (.int .i64 heard)).setCell ⟨g6, 2, none⟩ (.int .i64 answered)).setCell ⟨g6, 3, none⟩ (.int .i64 back)).setCell ⟨g6, 4, none⟩ (.int .i64 (wrap64 (wrap64 a2 - wrap64 b0)))).setCell ⟨g6, 5, none⟩ (.int .i64 (wrap64 (wrap64 (wrap64 a2 + 1) + wrap64 b1)))).setCell ⟨g6, 6, none⟩ (.int .i64 0)).setCell ⟨g6, 7, none⟩ (.int .i64 (wrap64 (wrap64 (wrap64 a3 + 1) + wrap64 b3)))) g6 #[.int .i64 sent, .int .i64 heard, .int .i64 answered, .int .i64 back, .int .i64 (wrap64 (wrap64 a2 - wrap64 b0)), .int .i64 (wrap64 (wrap64 (wrap64 a2 + 1) + wrap64 b1)), .int .i64 0, .int .i64 (wrap64 (wrap64 (wrap64 a3 + 1) + wrap64 b3))] 46 := blk_put p7_ 7 _ rfl
      have q8_ : Below w.heap.size w (((((((((w7_4.alloc (.cells #[.int .i64 sent, .int .i64 heard, .int .i64 answered, .int .i64 back, .int .i64 (wrap64 (wrap64 a2 - wrap64 b0)), .int .i64 (wrap64 (wrap64 (wrap64 a2 + 1) + wrap64 b1)), .int .i64 0, .int .i64 (wrap64 (wrap64 (wrap64 a3 + 1) + wrap64 b3))] 46)).setCell ⟨g6, 0, none⟩ (.int .i64 sent)).setCell ⟨g6, 1, none⟩ (.int .i64 heard)).setCell ⟨g6, 2, none⟩ (.int .i64 answered)).setCell ⟨g6, 3, none⟩ (.int .i64 back)).setCell ⟨g6, 4, none⟩ (.int .i64 (wrap64 (wrap64 a2 - wrap64 b0)))).setCell ⟨g6, 5, none⟩ (.int .i64 (wrap64 (wrap64 (wrap64 a2 + 1) + wrap64 b1)))).setCell ⟨g6, 6, none⟩ (.int .i64 0)).setCell ⟨g6, 7, none⟩ (.int .i64 (wrap64 (wrap64 (wrap64 a3 + 1) + wrap64 b3)))) := q7_.setCell (p := ⟨g6, 7, none⟩) hG6 _
      clear p7_ q7_
      generalize hE_ : (((((((((w7_4.alloc (.cells #[.int .i64 sent, .int .i64 heard, .int .i64 answered, .int .i64 back, .int .i64 (wrap64 (wrap64 a2 - wrap64 b0)), .int .i64 (wrap64 (wrap64 (wrap64 a2 + 1) + wrap64 b1)), .int .i64 0, .int .i64 (wrap64 (wrap64 (wrap64 a3 + 1) + wrap64 b3))] 46)).setCell ⟨g6, 0, none⟩ (.int .i64 sent)).setCell ⟨g6, 1, none⟩ (.int .i64 heard)).setCell ⟨g6, 2, none⟩ (.int .i64 answered)).setCell ⟨g6, 3, none⟩ (.int .i64 back)).setCell ⟨g6, 4, none⟩ (.int .i64 (wrap64 (wrap64 a2 - wrap64 b0)))).setCell ⟨g6, 5, none⟩ (.int .i64 (wrap64 (wrap64 (wrap64 a2 + 1) + wrap64 b1)))).setCell ⟨g6, 6, none⟩ (.int .i64 0)).setCell ⟨g6, 7, none⟩ (.int .i64 (wrap64 (wrap64 (wrap64 a3 + 1) + wrap64 b3)))) = WF at p8_ q8_ ⊢
      clear hE_
      have HL1 : Hid (xLo a2 b0 = (wrap64 (wrap64 a2 - wrap64 b0))) := Lib.hid (by unfold xLo mx; first | exact if_pos h1 | exact if_neg (Int.not_lt.2 h1))
      have HL2 : Hid (xLo a3 b2 = 0) := Lib.hid (by unfold xLo mx; first | exact if_pos h2 | exact if_neg (Int.not_lt.2 h2))
      exact bodyPost_ret (results_cell_row rfl _ _ g6 46 #[.int .i64 sent, .int .i64 heard, .int .i64 answered, .int .i64 back, .int .i64 (wrap64 (wrap64 a2 - wrap64 b0)), .int .i64 (wrap64 (wrap64 (wrap64 a2 + 1) + wrap64 b1)), .int .i64 0, .int .i64 (wrap64 (wrap64 (wrap64 a3 + 1) + wrap64 b3))] (0, 0) _ rfl p8_ Try.underlying46 rfl (by kernel_rfl)) rfl ⟨by rw [HL1.out, HL2.out]; unfold xHeard xAns xHi xBack xSent; rw [HS.out, HB_.out, HH.out, HA.out], q8_⟩
  case neg =>
    have k1_ := eq_false h1
    by_cases h2 : 0 < (wrap64 (wrap64 a3 - wrap64 b2))
    case pos =>
      have k2_ := eq_true h2
      go_wp2
      have p0_ : Blk (w7_4.alloc (.cells #[.int .i64 sent, .int .i64 heard, .int .i64 answered, .int .i64 back, .int .i64 0, .int .i64 (wrap64 (wrap64 (wrap64 a2 + 1) + wrap64 b1)), .int .i64 (wrap64 (wrap64 a3 - wrap64 b2)), .int .i64 (wrap64 (wrap64 (wrap64 a3 + 1) + wrap64 b3))] 46)) g6 #[.int .i64 0, .int .i64 0, .int .i64 0, .int .i64 0, .int .i64 0, .int .i64 0, .int .i64 0, .int .i64 0] 46 := blk_alloc m6 _
      have q0_ : Below w.heap.size w (w7_4.alloc (.cells #[.int .i64 sent, .int .i64 heard, .int .i64 answered, .int .i64 back, .int .i64 0, .int .i64 (wrap64 (wrap64 (wrap64 a2 + 1) + wrap64 b1)), .int .i64 (wrap64 (wrap64 a3 - wrap64 b2)), .int .i64 (wrap64 (wrap64 (wrap64 a3 + 1) + wrap64 b3))] 46)) := below_alloc mB _
      have p1_ : Blk ((w7_4.alloc (.cells #[.int .i64 sent, .int .i64 heard, .int .i64 answered, .int .i64 back, .int .i64 0, .int .i64 (wrap64 (wrap64 (wrap64 a2 + 1) + wrap64 b1)), .int .i64 (wrap64 (wrap64 a3 - wrap64 b2)), .int .i64 (wrap64 (wrap64 (wrap64 a3 + 1) + wrap64 b3))] 46)).setCell ⟨g6, 0, none⟩ (.int .i64 sent)) g6 #[.int .i64 sent, .int .i64 0, .int .i64 0, .int .i64 0, .int .i64 0, .int .i64 0, .int .i64 0, .int .i64 0] 46 := blk_put p0_ 0 _ rfl
      have q1_ : Below w.heap.size w ((w7_4.alloc (.cells #[.int .i64 sent, .int .i64 heard, .int .i64 answered, .int .i64 back, .int .i64 0, .int .i64 (wrap64 (wrap64 (wrap64 a2 + 1) + wrap64 b1)), .int .i64 (wrap64 (wrap64 a3 - wrap64 b2)), .int .i64 (wrap64 (wrap64 (wrap64 a3 + 1) + wrap64 b3))] 46)).setCell ⟨g6, 0, none⟩ (.int .i64 sent)) := q0_.setCell (p := ⟨g6, 0, none⟩) hG6 _
      clear p0_ q0_
      have p2_ : Blk (((w7_4.alloc (.cells #[.int .i64 sent, .int .i64 heard, .int .i64 answered, .int .i64 back, .int .i64 0, .int .i64 (wrap64 (wrap64 (wrap64 a2 + 1) + wrap64 b1)), .int .i64 (wrap64 (wrap64 a3 - wrap64 b2)), .int .i64 (wrap64 (wrap64 (wrap64 a3 + 1) + wrap64 b3))] 46)).setCell ⟨g6, 0, none⟩ (.int .i64 sent)).setCell ⟨g6, 1, none⟩ (.int .i64 heard)) g6 #[.int .i64 sent, .int .i64 heard, .int .i64 0, .int .i64 0, .int .i64 0, .int .i64 0, .int .i64 0, .int .i64 0] 46 := blk_put p1_ 1 _ rfl
      have q2_ : Below w.heap.size w (((w7_4.alloc (.cells #[.int .i64 sent, .int .i64 heard, .int .i64 answered, .int .i64 back, .int .i64 0, .int .i64 (wrap64 (wrap64 (wrap64 a2 + 1) + wrap64 b1)), .int .i64 (wrap64 (wrap64 a3 - wrap64 b2)), .int .i64 (wrap64 (wrap64 (wrap64 a3 + 1) + wrap64 b3))] 46)).setCell ⟨g6, 0, none⟩ (.int .i64 sent)).setCell ⟨g6, 1, none⟩ (.int .i64 heard)) := q1_.setCell (p := ⟨g6, 1, none⟩) hG6 _
      clear p1_ q1_
      have p3_ : Blk ((((w7_4.alloc (.cells #[.int .i64 sent, .int .i64 heard, .int .i64 answered, .int .i64 back, .int .i64 0, .int .i64 (wrap64 (wrap64 (wrap64 a2 + 1) + wrap64 b1)), .int .i64 (wrap64 (wrap64 a3 - wrap64 b2)), .int .i64 (wrap64 (wrap64 (wrap64 a3 + 1) + wrap64 b3))] 46)).setCell ⟨g6, 0, none⟩ (.int .i64 sent)).setCell ⟨g6, 1, none⟩ (.int .i64 heard)).setCell ⟨g6, 2, none⟩ (.int .i64 answered)) g6 #[.int .i64 sent, .int .i64 heard, .int .i64 answered, .int .i64 0, .int .i64 0, .int .i64 0, .int .i64 0, .int .i64 0] 46 := blk_put p2_ 2 _ rfl
      have q3_ : Below w.heap.size w ((((w7_4.alloc (.cells #[.int .i64 sent, .int .i64 heard, .int .i64 answered, .int .i64 back, .int .i64 0, .int .i64 (wrap64 (wrap64 (wrap64 a2 + 1) + wrap64 b1)), .int .i64 (wrap64 (wrap64 a3 - wrap64 b2)), .int .i64 (wrap64 (wrap64 (wrap64 a3 + 1) + wrap64 b3))] 46)).setCell ⟨g6, 0, none⟩ (.int .i64 sent)).setCell ⟨g6, 1, none⟩ (.int .i64 heard)).setCell ⟨g6, 2, none⟩ (.int .i64 answered)) := q2_.setCell (p := ⟨g6, 2, none⟩) hG6 _
      clear p2_ q2_
      have p4_ : Blk (((((w7_4.alloc (.cells #[.int .i64 sent, .int .i64 heard, .int .i64 answered, .int .i64 back, .int .i64 0, .int .i64 (wrap64 (wrap64 (wrap64 a2 + 1) + wrap64 b1)), .int .i64 (wrap64 (wrap64 a3 - wrap64 b2)), .int .i64 (wrap64 (wrap64 (wrap64 a3 + 1) + wrap64 b3))] 46)).setCell ⟨g6, 0, none⟩ (.int .i64 sent)).setCell ⟨g6, 1, none⟩ (.int .i64 heard)).setCell ⟨g6, 2, none⟩ (.int .i64 answered)).setCell ⟨g6, 3, none⟩ (.int .i64 back)) g6 #[.int .i64 sent, .int .i64 heard, .int .i64 answered, .int .i64 back, .int .i64 0, .int .i64 0, .int .i64 0, .int .i64 0] 46 := blk_put p3_ 3 _ rfl
      have q4_ : Below w.heap.size w (((((w7_4.alloc (.cells #[.int .i64 sent, .int .i64 heard, .int .i64 answered, .int .i64 back, .int .i64 0, .int .i64 (wrap64 (wrap64 (wrap64 a2 + 1) + wrap64 b1)), .int .i64 (wrap64 (wrap64 a3 - wrap64 b2)), .int .i64 (wrap64 (wrap64 (wrap64 a3 + 1) + wrap64 b3))] 46)).setCell ⟨g6, 0, none⟩ (.int .i64 sent)).setCell ⟨g6, 1, none⟩ (.int .i64 heard)).setCell ⟨g6, 2, none⟩ (.int .i64 answered)).setCell ⟨g6, 3, none⟩ (.int .i64 back)) := q3_.setCell (p := ⟨g6, 3, none⟩) hG6 _
      clear p3_ q3_
      have p5_ : Blk ((((((w7_4.alloc (.cells #[.int .i64 sent, .int .i64 heard, .int .i64 answered, .int .i64 back, .int .i64 0, .int .i64 (wrap64 (wrap64 (wrap64 a2 + 1) + wrap64 b1)), .int .i64 (wrap64 (wrap64 a3 - wrap64 b2)), .int .i64 (wrap64 (wrap64 (wrap64 a3 + 1) + wrap64 b3))] 46)).setCell ⟨g6, 0, none⟩ (.int .i64 sent)).setCell ⟨g6, 1, none⟩ (.int .i64 heard)).setCell ⟨g6, 2, none⟩ (.int .i64 answered)).setCell ⟨g6, 3, none⟩ (.int .i64 back)).setCell ⟨g6, 4, none⟩ (.int .i64 0)) g6 #[.int .i64 sent, .int .i64 heard, .int .i64 answered, .int .i64 back, .int .i64 0, .int .i64 0, .int .i64 0, .int .i64 0] 46 := blk_put p4_ 4 _ rfl
      have q5_ : Below w.heap.size w ((((((w7_4.alloc (.cells #[.int .i64 sent, .int .i64 heard, .int .i64 answered, .int .i64 back, .int .i64 0, .int .i64 (wrap64 (wrap64 (wrap64 a2 + 1) + wrap64 b1)), .int .i64 (wrap64 (wrap64 a3 - wrap64 b2)), .int .i64 (wrap64 (wrap64 (wrap64 a3 + 1) + wrap64 b3))] 46)).setCell ⟨g6, 0, none⟩ (.int .i64 sent)).setCell ⟨g6, 1, none⟩ (.int .i64 heard)).setCell ⟨g6, 2, none⟩ (.int .i64 answered)).setCell ⟨g6, 3, none⟩ (.int .i64 back)).setCell ⟨g6, 4, none⟩ (.int .i64 0)) := q4_.setCell (p := ⟨g6, 4, none⟩) hG6 _
      clear p4_ q4_
      have p6_ : Blk (((((((w7_4.alloc (.cells #[.int .i64 sent, .int .i64 heard, .int .i64 answered, .int .i64 back, .int .i64 0, .int .i64 (wrap64 (wrap64 (wrap64 a2 + 1) + wrap64 b1)), .int .i64 (wrap64 (wrap64 a3 - wrap64 b2)), .int .i64 (wrap64 (wrap64 (wrap64 a3 + 1) + wrap64 b3))] 46)).setCell ⟨g6, 0, none⟩ (.int .i64 sent)).setCell ⟨g6, 1, none⟩ (.int .i64 heard)).setCell ⟨g6, 2, none⟩ (.int .i64 answered)).setCell ⟨g6, 3, none⟩ (.int .i64 back)).setCell ⟨g6, 4, none⟩ (.int .i64 0)).setCell ⟨g6, 5, none⟩ (.int .i64 (wrap64 (wrap64 (wrap64 a2 + 1) + wrap64 b1)))) g6 #[.int .i64 sent, .int .i64 heard, .int .i64 answered, .int .i64 back, .int .i64 0, .int .i64 (wrap64 (wrap64 (wrap64 a2 + 1) + wrap64 b1)), .int .i64 0, .int .i64 0] 46 := blk_put p5_ 5 _ rfl
      have q6_ : Below w.heap.size w (((((((w7_4.alloc (.cells #[.int .i64 sent, .int .i64 heard, .int .i64 answered, .int .i64 back, .int .i64 0, .int .i64 (wrap64 (wrap64 (wrap64 a2 + 1) + wrap64 b1)), .int .i64 (wrap64 (wrap64 a3 - wrap64 b2)), .int .i64 (wrap64 (wrap64 (wrap64 a3 + 1) + wrap64 b3))] 46)).setCell ⟨g6, 0, none⟩ (.int .i64 sent)).setCell ⟨g6, 1, none⟩ (.int .i64 heard)).setCell ⟨g6, 2, none⟩ (.int .i64 answered)).setCell ⟨g6, 3, none⟩ (.int .i64 back)).setCell ⟨g6, 4, none⟩ (.int .i64 0)).setCell ⟨g6, 5, none⟩ (.int .i64 (wrap64 (wrap64 (wrap64 a2 + 1) + wrap64 b1)))) := q5_.setCell (p := ⟨g6, 5, none⟩) hG6 _
      clear p5_ q5_
      have p7_ : Blk ((((((((w7_4.alloc (.cells #[.int .i64 sent, .int .i64 heard, .int .i64 answered, .int .i64 back, .int .i64 0, .int .i64 (wrap64 (wrap64 (wrap64 a2 + 1) + wrap64 b1)), .int .i64 (wrap64 (wrap64 a3 - wrap64 b2)), .int .i64 (wrap64 (wrap64 (wrap64 a3 + 1) + wrap64 b3))] 46)).setCell ⟨g6, 0, none⟩ (.int .i64 sent)).setCell ⟨g6, 1, none⟩ (.int .i64 heard)).setCell ⟨g6, 2, none⟩ (.int .i64 answered)).setCell ⟨g6, 3, none⟩ (.int .i64 back)).setCell ⟨g6, 4, none⟩ (.int .i64 0)).setCell ⟨g6, 5, none⟩ (.int .i64 (wrap64 (wrap64 (wrap64 a2 + 1) + wrap64 b1)))).setCell ⟨g6, 6, none⟩ (.int .i64 (wrap64 (wrap64 a3 - wrap64 b2)))) g6 #[.int .i64 sent, .int .i64 heard, .int .i64 answered, .int .i64 back, .int .i64 0, .int .i64 (wrap64 (wrap64 (wrap64 a2 + 1) + wrap64 b1)), .int .i64 (wrap64 (wrap64 a3 - wrap64 b2)), .int .i64 0] 46 := blk_put p6_ 6 _ rfl
      have q7_ : Below w.heap.size w ((((((((w7_4.alloc (.cells #[.int .i64 sent, .int .i64 heard, .int .i64 answered, .int .i64 back, .int .i64 0, .int .i64 (wrap64 (wrap64 (wrap64 a2 + 1) + wrap64 b1)), .int .i64 (wrap64 (wrap64 a3 - wrap64 b2)), .int .i64 (wrap64 (wrap64 (wrap64 a3 + 1) + wrap64 b3))] 46)).setCell ⟨g6, 0, none⟩ (.int .i64 sent)).setCell ⟨g6, 1, none⟩ (.int .i64 heard)).setCell ⟨g6, 2, none⟩ (.int .i64 answered)).setCell ⟨g6, 3, none⟩ (.int .i64 back)).setCell ⟨g6, 4, none⟩ (.int .i64 0)).setCell ⟨g6, 5, none⟩ (.int .i64 (wrap64 (wrap64 (wrap64 a2 + 1) + wrap64 b1)))).setCell ⟨g6, 6, none⟩ (.int .i64 (wrap64 (wrap64 a3 - wrap64 b2)))) := q6_.setCell (p := ⟨g6, 6, none⟩) hG6 _
      clear p6_ q6_
      have p8_ : Blk (((((((((w7_4.alloc (.cells #[.int .i64 sent, .int .i64 heard, .int .i64 answered, .int .i64 back, .int .i64 0, .int .i64 (wrap64 (wrap64 (wrap64 a2 + 1) + wrap64 b1)), .int .i64 (wrap64 (wrap64 a3 - wrap64 b2)), .int .i64 (wrap64 (wrap64 (wrap64 a3 + 1) + wrap64 b3))] 46)).setCell ⟨g6, 0, none⟩ (.int .i64 sent)).setCell ⟨g6, 1, none⟩ (.int .i64 heard)).setCell ⟨g6, 2, none⟩ (.int .i64 answered)).setCell ⟨g6, 3, none⟩ (.int .i64 back)).setCell ⟨g6, 4, none⟩ (.int .i64 0)).setCell ⟨g6, 5, none⟩ (.int .i64 (wrap64 (wrap64 (wrap64 a2 + 1) + wrap64 b1)))).setCell ⟨g6, 6, none⟩ (.int .i64 (wrap64 (wrap64 a3 - wrap64 b2)))).setCell ⟨g6, 7, none⟩ (.int .i64 (wrap64 (wrap64 (wrap64 a3 + 1) + wrap64 b3)))) g6 #[.int .i64 sent, .int .i64 heard, .int .i64 answered, .int .i64 back, .int .i64 0, .int .i64 (wrap64 (wrap64 (wrap64 a2 + 1) + wrap64 b1)), .int .i64 (wrap64 (wrap64 a3 - wrap64 b2)), .int .i64 (wrap64 (wrap64 (wrap64 a3 + 1) + wrap64 b3))] 46 := blk_put p7_ 7 _ rfl
      have q8_ : Below w.heap.size w (((((((((w7_4.alloc (.cells #[.int .i64 sent, .int .i64 heard, .int .i64 answered, .int .i64 back, .int .i64 0, .int .i64 (wrap64 (wrap64 (wrap64 a2 + 1) + wrap64 b1)), .int .i64 (wrap64 (wrap64 a3 - wrap64 b2)), .int .i64 (wrap64 (wrap64 (wrap64 a3 + 1) + wrap64 b3))] 46)).setCell ⟨g6, 0, none⟩ (.int .i64 sent)).setCell ⟨g6, 1, none⟩ (.int .i64 heard)).setCell ⟨g6, 2, none⟩ (.int .i64 answered)).setCell ⟨g6, 3, none⟩ (.int .i64 back)).setCell ⟨g6, 4, none⟩ (.int .i64 0)).setCell ⟨g6, 5, none⟩ (.int .i64 (wrap64 (wrap64 (wrap64 a2 + 1) + wrap64 b1)))).setCell ⟨g6, 6, none⟩ (.int .i64 (wrap64 (wrap64 a3 - wrap64 b2)))).setCell ⟨g6, 7, none⟩ (.int .i64 (wrap64 (wrap64 (wrap64 a3 + 1) + wrap64 b3)))) := q7_.setCell (p := ⟨g6, 7, none⟩) hG6 _
      clear p7_ q7_
      generalize hE_ : (((((((((w7_4.alloc (.cells #[.int .i64 sent, .int .i64 heard, .int .i64 answered, .int .i64 back, .int .i64 0, .int .i64 (wrap64 (wrap64 (wrap64 a2 + 1) + wrap64 b1)), .int .i64 (wrap64 (wrap64 a3 - wrap64 b2)), .int .i64 (wrap64 (wrap64 (wrap64 a3 + 1) + wrap64 b3))] 46)).setCell ⟨g6, 0, none⟩ (.int .i64 sent)).setCell ⟨g6, 1, none⟩ (.int .i64 heard)).setCell ⟨g6, 2, none⟩ (.int .i64 answered)).setCell ⟨g6, 3, none⟩ (.int .i64 back)).setCell ⟨g6, 4, none⟩ (.int .i64 0)).setCell ⟨g6, 5, none⟩ (.int .i64 (wrap64 (wrap64 (wrap64 a2 + 1) + wrap64 b1)))).setCell ⟨g6, 6, none⟩ (.int .i64 (wrap64 (wrap64 a3 - wrap64 b2)))).setCell ⟨g6, 7, none⟩ (.int .i64 (wrap64 (wrap64 (wrap64 a3 + 1) + wrap64 b3)))) = WF at p8_ q8_ ⊢
      clear hE_
      have HL1 : Hid (xLo a2 b0 = 0) := Lib.hid (by unfold xLo mx; first | exact if_pos h1 | exact if_neg (Int.not_lt.2 h1))
      have HL2 : Hid (xLo a3 b2 = (wrap64 (wrap64 a3 - wrap64 b2))) := Lib.hid (by unfold xLo mx; first | exact if_pos h2 | exact if_neg (Int.not_lt.2 h2))
      exact bodyPost_ret (results_cell_row rfl _ _ g6 46 #[.int .i64 sent, .int .i64 heard, .int .i64 answered, .int .i64 back, .int .i64 0, .int .i64 (wrap64 (wrap64 (wrap64 a2 + 1) + wrap64 b1)), .int .i64 (wrap64 (wrap64 a3 - wrap64 b2)), .int .i64 (wrap64 (wrap64 (wrap64 a3 + 1) + wrap64 b3))] (0, 0) _ rfl p8_ Try.underlying46 rfl (by kernel_rfl)) rfl ⟨by rw [HL1.out, HL2.out]; unfold xHeard xAns xHi xBack xSent; rw [HS.out, HB_.out, HH.out, HA.out], q8_⟩
    case neg =>
      have k2_ := eq_false h2
      go_wp2
      have p0_ : Blk (w7_4.alloc (.cells #[.int .i64 sent, .int .i64 heard, .int .i64 answered, .int .i64 back, .int .i64 0, .int .i64 (wrap64 (wrap64 (wrap64 a2 + 1) + wrap64 b1)), .int .i64 0, .int .i64 (wrap64 (wrap64 (wrap64 a3 + 1) + wrap64 b3))] 46)) g6 #[.int .i64 0, .int .i64 0, .int .i64 0, .int .i64 0, .int .i64 0, .int .i64 0, .int .i64 0, .int .i64 0] 46 := blk_alloc m6 _
      have q0_ : Below w.heap.size w (w7_4.alloc (.cells #[.int .i64 sent, .int .i64 heard, .int .i64 answered, .int .i64 back, .int .i64 0, .int .i64 (wrap64 (wrap64 (wrap64 a2 + 1) + wrap64 b1)), .int .i64 0, .int .i64 (wrap64 (wrap64 (wrap64 a3 + 1) + wrap64 b3))] 46)) := below_alloc mB _
      have p1_ : Blk ((w7_4.alloc (.cells #[.int .i64 sent, .int .i64 heard, .int .i64 answered, .int .i64 back, .int .i64 0, .int .i64 (wrap64 (wrap64 (wrap64 a2 + 1) + wrap64 b1)), .int .i64 0, .int .i64 (wrap64 (wrap64 (wrap64 a3 + 1) + wrap64 b3))] 46)).setCell ⟨g6, 0, none⟩ (.int .i64 sent)) g6 #[.int .i64 sent, .int .i64 0, .int .i64 0, .int .i64 0, .int .i64 0, .int .i64 0, .int .i64 0, .int .i64 0] 46 := blk_put p0_ 0 _ rfl
      have q1_ : Below w.heap.size w ((w7_4.alloc (.cells #[.int .i64 sent, .int .i64 heard, .int .i64 answered, .int .i64 back, .int .i64 0, .int .i64 (wrap64 (wrap64 (wrap64 a2 + 1) + wrap64 b1)), .int .i64 0, .int .i64 (wrap64 (wrap64 (wrap64 a3 + 1) + wrap64 b3))] 46)).setCell ⟨g6, 0, none⟩ (.int .i64 sent)) := q0_.setCell (p := ⟨g6, 0, none⟩) hG6 _
      clear p0_ q0_
      have p2_ : Blk (((w7_4.alloc (.cells #[.int .i64 sent, .int .i64 heard, .int .i64 answered, .int .i64 back, .int .i64 0, .int .i64 (wrap64 (wrap64 (wrap64 a2 + 1) + wrap64 b1)), .int .i64 0, .int .i64 (wrap64 (wrap64 (wrap64 a3 + 1) + wrap64 b3))] 46)).setCell ⟨g6, 0, none⟩ (.int .i64 sent)).setCell ⟨g6, 1, none⟩ (.int .i64 heard)) g6 #[.int .i64 sent, .int .i64 heard, .int .i64 0, .int .i64 0, .int .i64 0, .int .i64 0, .int .i64 0, .int .i64 0] 46 := blk_put p1_ 1 _ rfl
      have q2_ : Below w.heap.size w (((w7_4.alloc (.cells #[.int .i64 sent, .int .i64 heard, .int .i64 answered, .int .i64 back, .int .i64 0, .int .i64 (wrap64 (wrap64 (wrap64 a2 + 1) + wrap64 b1)), .int .i64 0, .int .i64 (wrap64 (wrap64 (wrap64 a3 + 1) + wrap64 b3))] 46)).setCell ⟨g6, 0, none⟩ (.int .i64 sent)).setCell ⟨g6, 1, none⟩ (.int .i64 heard)) := q1_.setCell (p := ⟨g6, 1, none⟩) hG6 _
      clear p1_ q1_
      have p3_ : Blk ((((w7_4.alloc (.cells #[.int .i64 sent, .int .i64 heard, .int .i64 answered, .int .i64 back, .int .i64 0, .int .i64 (wrap64 (wrap64 (wrap64 a2 + 1) + wrap64 b1)), .int .i64 0, .int .i64 (wrap64 (wrap64 (wrap64 a3 + 1) + wrap64 b3))] 46)).setCell ⟨g6, 0, none⟩ (.int .i64 sent)).setCell ⟨g6, 1, none⟩ (.int .i64 heard)).setCell ⟨g6, 2, none⟩ (.int .i64 answered)) g6 #[.int .i64 sent, .int .i64 heard, .int .i64 answered, .int .i64 0, .int .i64 0, .int .i64 0, .int .i64 0, .int .i64 0] 46 := blk_put p2_ 2 _ rfl
      have q3_ : Below w.heap.size w ((((w7_4.alloc (.cells #[.int .i64 sent, .int .i64 heard, .int .i64 answered, .int .i64 back, .int .i64 0, .int .i64 (wrap64 (wrap64 (wrap64 a2 + 1) + wrap64 b1)), .int .i64 0, .int .i64 (wrap64 (wrap64 (wrap64 a3 + 1) + wrap64 b3))] 46)).setCell ⟨g6, 0, none⟩ (.int .i64 sent)).setCell ⟨g6, 1, none⟩ (.int .i64 heard)).setCell ⟨g6, 2, none⟩ (.int .i64 answered)) := q2_.setCell (p := ⟨g6, 2, none⟩) hG6 _
      clear p2_ q2_
      have p4_ : Blk (((((w7_4.alloc (.cells #[.int .i64 sent, .int .i64 heard, .int .i64 answered, .int .i64 back, .int .i64 0, .int .i64 (wrap64 (wrap64 (wrap64 a2 + 1) + wrap64 b1)), .int .i64 0, .int .i64 (wrap64 (wrap64 (wrap64 a3 + 1) + wrap64 b3))] 46)).setCell ⟨g6, 0, none⟩ (.int .i64 sent)).setCell ⟨g6, 1, none⟩ (.int .i64 heard)).setCell ⟨g6, 2, none⟩ (.int .i64 answered)).setCell ⟨g6, 3, none⟩ (.int .i64 back)) g6 #[.int .i64 sent, .int .i64 heard, .int .i64 answered, .int .i64 back, .int .i64 0, .int .i64 0, .int .i64 0, .int .i64 0] 46 := blk_put p3_ 3 _ rfl
      have q4_ : Below w.heap.size w (((((w7_4.alloc (.cells #[.int .i64 sent, .int .i64 heard, .int .i64 answered, .int .i64 back, .int .i64 0, .int .i64 (wrap64 (wrap64 (wrap64 a2 + 1) + wrap64 b1)), .int .i64 0, .int .i64 (wrap64 (wrap64 (wrap64 a3 + 1) + wrap64 b3))] 46)).setCell ⟨g6, 0, none⟩ (.int .i64 sent)).setCell ⟨g6, 1, none⟩ (.int .i64 heard)).setCell ⟨g6, 2, none⟩ (.int .i64 answered)).setCell ⟨g6, 3, none⟩ (.int .i64 back)) := q3_.setCell (p := ⟨g6, 3, none⟩) hG6 _
      clear p3_ q3_
      have p5_ : Blk ((((((w7_4.alloc (.cells #[.int .i64 sent, .int .i64 heard, .int .i64 answered, .int .i64 back, .int .i64 0, .int .i64 (wrap64 (wrap64 (wrap64 a2 + 1) + wrap64 b1)), .int .i64 0, .int .i64 (wrap64 (wrap64 (wrap64 a3 + 1) + wrap64 b3))] 46)).setCell ⟨g6, 0, none⟩ (.int .i64 sent)).setCell ⟨g6, 1, none⟩ (.int .i64 heard)).setCell ⟨g6, 2, none⟩ (.int .i64 answered)).setCell ⟨g6, 3, none⟩ (.int .i64 back)).setCell ⟨g6, 4, none⟩ (.int .i64 0)) g6 #[.int .i64 sent, .int .i64 heard, .int .i64 answered, .int .i64 back, .int .i64 0, .int .i64 0, .int .i64 0, .int .i64 0] 46 := blk_put p4_ 4 _ rfl
      have q5_ : Below w.heap.size w ((((((w7_4.alloc (.cells #[.int .i64 sent, .int .i64 heard, .int .i64 answered, .int .i64 back, .int .i64 0, .int .i64 (wrap64 (wrap64 (wrap64 a2 + 1) + wrap64 b1)), .int .i64 0, .int .i64 (wrap64 (wrap64 (wrap64 a3 + 1) + wrap64 b3))] 46)).setCell ⟨g6, 0, none⟩ (.int .i64 sent)).setCell ⟨g6, 1, none⟩ (.int .i64 heard)).setCell ⟨g6, 2, none⟩ (.int .i64 answered)).setCell ⟨g6, 3, none⟩ (.int .i64 back)).setCell ⟨g6, 4, none⟩ (.int .i64 0)) := q4_.setCell (p := ⟨g6, 4, none⟩) hG6 _
      clear p4_ q4_
      have p6_ : Blk (((((((w7_4.alloc (.cells #[.int .i64 sent, .int .i64 heard, .int .i64 answered, .int .i64 back, .int .i64 0, .int .i64 (wrap64 (wrap64 (wrap64 a2 + 1) + wrap64 b1)), .int .i64 0, .int .i64 (wrap64 (wrap64 (wrap64 a3 + 1) + wrap64 b3))] 46)).setCell ⟨g6, 0, none⟩ (.int .i64 sent)).setCell ⟨g6, 1, none⟩ (.int .i64 heard)).setCell ⟨g6, 2, none⟩ (.int .i64 answered)).setCell ⟨g6, 3, none⟩ (.int .i64 back)).setCell ⟨g6, 4, none⟩ (.int .i64 0)).setCell ⟨g6, 5, none⟩ (.int .i64 (wrap64 (wrap64 (wrap64 a2 + 1) + wrap64 b1)))) g6 #[.int .i64 sent, .int .i64 heard, .int .i64 answered, .int .i64 back, .int .i64 0, .int .i64 (wrap64 (wrap64 (wrap64 a2 + 1) + wrap64 b1)), .int .i64 0, .int .i64 0] 46 := blk_put p5_ 5 _ rfl
      have q6_ : Below w.heap.size w (((((((w7_4.alloc (.cells #[.int .i64 sent, .int .i64 heard, .int .i64 answered, .int .i64 back, .int .i64 0, .int .i64 (wrap64 (wrap64 (wrap64 a2 + 1) + wrap64 b1)), .int .i64 0, .int .i64 (wrap64 (wrap64 (wrap64 a3 + 1) + wrap64 b3))] 46)).setCell ⟨g6, 0, none⟩ (.int .i64 sent)).setCell ⟨g6, 1, none⟩ (.int .i64 heard)).setCell ⟨g6, 2, none⟩ (.int .i64 answered)).setCell ⟨g6, 3, none⟩ (.int .i64 back)).setCell ⟨g6, 4, none⟩ (.int .i64 0)).setCell ⟨g6, 5, none⟩ (.int .i64 (wrap64 (wrap64 (wrap64 a2 + 1) + wrap64 b1)))) := q5_.setCell (p := ⟨g6, 5, none⟩) hG6 _
      clear p5_ q5_
      have p7_ : Blk ((((((((w7_4.alloc (.cells #[.int .i64 sent, .int .i64 heard, .int .i64 answered, .int .i64 back, .int .i64 0, .int .i64 (wrap64 (wrap64 (wrap64 a2 + 1) + wrap64 b1)), .int .i64 0, .int .i64 (wrap64 (wrap64 (wrap64 a3 + 1) + wrap64 b3))] 46)).setCell ⟨g6, 0, none⟩ (.int .i64 sent)).setCell ⟨g6, 1, none⟩ (.int .i64 heard)).setCell ⟨g6, 2, none⟩ (.int .i64 answered)).setCell ⟨g6, 3, none⟩ (.int .i64 back)).setCell ⟨g6, 4, none⟩ (.int .i64 0)).setCell ⟨g6, 5, none⟩ (.int .i64 (wrap64 (wrap64 (wrap64 a2 + 1) + wrap64 b1)))).setCell ⟨g6, 6, none⟩ (.int .i64 0)) g6 #[.int .i64 sent, .int .i64 heard, .int .i64 answered, .int .i64 back, .int .i64 0, .int .i64 (wrap64 (wrap64 (wrap64 a2 + 1) + wrap64 b1)), .int .i64 0, .int .i64 0] 46 := blk_put p6_ 6 _ rfl
      have q7_ : Below w.heap.size w ((((((((w7_4.alloc (.cells #[.int .i64 sent, .int .i64 heard, .int .i64 answered, .int .i64 back, .int .i64 0, .int .i64 (wrap64 (wrap64 (wrap64 a2 + 1) + wrap64 b1)), .int .i64 0, .int .i64 (wrap64 (wrap64 (wrap64 a3 + 1) + wrap64 b3))] 46)).setCell ⟨g6, 0, none⟩ (.int .i64 sent)).setCell ⟨g6, 1, none⟩ (.int .i64 heard)).setCell ⟨g6, 2, none⟩ (.int .i64 answered)).setCell ⟨g6, 3, none⟩ (.int .i64 back)).setCell ⟨g6, 4, none⟩ (.int .i64 0)).setCell ⟨g6, 5, none⟩ (.int .i64 (wrap64 (wrap64 (wrap64 a2 + 1) + wrap64 b1)))).setCell ⟨g6, 6, none⟩ (.int .i64 0)) := q6_.setCell (p := ⟨g6, 6, none⟩) hG6 _
      clear p6_ q6_
      have p8_ : Blk (((((((((w7_4.alloc (.cells #[.int .i64 sent, .int .i64 heard, .int .i64 answered, .int .i64 back, .int .i64 0, .int .i64 (wrap64 (wrap64 (wrap64 a2 + 1) + wrap64 b1)), .int .i64 0, .int .i64 (wrap64 (wrap64 (wrap64 a3 + 1) + wrap64 b3))] 46)).setCell ⟨g6, 0, none⟩ (.int .i64 sent)).setCell ⟨g6, 1, none⟩ (.int .i64 heard)).setCell ⟨g6, 2, none⟩ (.int .i64 answered)).setCell ⟨g6, 3, none⟩ (.int .i64 back)).setCell ⟨g6, 4, none⟩ (.int .i64 0)).setCell ⟨g6, 5, none⟩ (.int .i64 (wrap64 (wrap64 (wrap64 a2 + 1) + wrap64 b1)))).setCell ⟨g6, 6, none⟩ (.int .i64 0)).setCell ⟨g6, 7, none⟩ (.int .i64 (wrap64 (wrap64 (wrap64 a3 + 1) + wrap64 b3)))) g6 #[.int .i64 sent, .int .i64 heard, .int .i64 answered, .int .i64 back, .int .i64 0, .int .i64 (wrap64 (wrap64 (wrap64 a2 + 1) + wrap64 b1)), .int .i64 0, .int .i64 (wrap64 (wrap64 (wrap64 a3 + 1) + wrap64 b3))] 46 := blk_put p7_ 7 _ rfl
      have q8_ : Below w.heap.size w (((((((((w7_4.alloc (.cells #[.int .i64 sent, .int .i64 heard, .int .i64 answered, .int .i64 back, .int .i64 0, .int .i64 (wrap64 (wrap64 (wrap64 a2 + 1) + wrap64 b1)), .int .i64 0, .int .i64 (wrap64 (wrap64 (wrap64 a3 + 1) + wrap64 b3))] 46)).setCell ⟨g6, 0, none⟩ (.int .i64 sent)).setCell ⟨g6, 1, none⟩ (.int .i64 heard)).setCell ⟨g6, 2, none⟩ (.int .i64 answered)).setCell ⟨g6, 3, none⟩ (.int .i64 back)).setCell ⟨g6, 4, none⟩ (.int .i64 0)).setCell ⟨g6, 5, none⟩ (.int .i64 (wrap64 (wrap64 (wrap64 a2 + 1) + wrap64 b1)))).setCell ⟨g6, 6, none⟩ (.int .i64 0)).setCell ⟨g6, 7, none⟩ (.int .i64 (wrap64 (wrap64 (wrap64 a3 + 1) + wrap64 b3)))) := q7_.setCell (p := ⟨g6, 7, none⟩) hG6 _
      clear p7_ q7_
      generalize hE_ : (((((((((w7_4.alloc (.cells #[.int .i64 sent, .int .i64 heard, .int .i64 answered, .int .i64 back, .int .i64 0, .int .i64 (wrap64 (wrap64 (wrap64 a2 + 1) + wrap64 b1)), .int .i64 0, .int .i64 (wrap64 (wrap64 (wrap64 a3 + 1) + wrap64 b3))] 46)).setCell ⟨g6, 0, none⟩ (.int .i64 sent)).setCell ⟨g6, 1, none⟩ (.int .i64 heard)).setCell ⟨g6, 2, none⟩ (.int .i64 answered)).setCell ⟨g6, 3, none⟩ (.int .i64 back)).setCell ⟨g6, 4, none⟩ (.int .i64 0)).setCell ⟨g6, 5, none⟩ (.int .i64 (wrap64 (wrap64 (wrap64 a2 + 1) + wrap64 b1)))).setCell ⟨g6, 6, none⟩ (.int .i64 0)).setCell ⟨g6, 7, none⟩ (.int .i64 (wrap64 (wrap64 (wrap64 a3 + 1) + wrap64 b3)))) = WF at p8_ q8_ ⊢
      clear hE_
      have HL1 : Hid (xLo a2 b0 = 0) := Lib.hid (by unfold xLo mx; first | exact if_pos h1 | exact if_neg (Int.not_lt.2 h1))
      have HL2 : Hid (xLo a3 b2 = 0) := Lib.hid (by unfold xLo mx; first | exact if_pos h2 | exact if_neg (Int.not_lt.2 h2))
      exact bodyPost_ret (results_cell_row rfl _ _ g6 46 #[.int .i64 sent, .int .i64 heard, .int .i64 answered, .int .i64 back, .int .i64 0, .int .i64 (wrap64 (wrap64 (wrap64 a2 + 1) + wrap64 b1)), .int .i64 0, .int .i64 (wrap64 (wrap64 (wrap64 a3 + 1) + wrap64 b3))] (0, 0) _ rfl p8_ Try.underlying46 rfl (by kernel_rfl)) rfl ⟨by rw [HL1.out, HL2.out]; unfold xHeard xAns xHi xBack xSent; rw [HS.out, HB_.out, HH.out, HA.out], q8_⟩
end Go.Proofs.Ytcjdhajdoikojaa.Clk
namespace Go.Proofs.Ytcjdhajdoikojaa.Pr
open Go.RowKit Go.Proofs.YtcjdhajdoikojaaW.PrintWords Go.Proofs.YtcjdhajdoikojaaW.PrintLast Go.Proofs.YtcjdhajdoikojaaW.PrintMore Go.Proofs.Ytcjdhajdoikojaa.Clk
set_option linter.unusedVariables false
def isobathlaw05_exchange.f (a0_0 : Int) (l0_1 : List Int) (a1 : Int) (a2_0 : Int) (a2_1 : Int) (a2_2 : Int) (a2_3 : Int) (a2_4 : Int) (a2_5 : Int) (a2_6 : Int) (a2_7 : Int) : Option (Int × Int × Int × Int × Int × Int × Int × Int) :=
  some (xSent a2_0, xHeard a0_0 l0_1 a1 a2_0 a2_2, xAns a0_0 l0_1 a1 a2_0 a2_1 a2_3, xBack a2_0 a2_1, xLo a2_2 a2_4, xHi a2_2 a2_5, xLo a2_3 a2_6, xHi a2_3 a2_7)
theorem isobathlaw05_exchange.calls (a0_0 : Int) (A0_1 : Option Addr) (c0_1 : Nat) (l0_1 : List Int) (a1 : Int) (a2_0 : Int) (a2_1 : Int) (a2_2 : Int) (a2_3 : Int) (a2_4 : Int) (a2_5 : Int) (a2_6 : Int) (a2_7 : Int) (r1 : Int) (r2 : Int) (r3 : Int) (r4 : Int) (r5 : Int) (r6 : Int) (r7 : Int) (r8 : Int) (w : World) (hr0_1 : Kd.C (Kd.int .i8) w A0_1 l0_1.length l0_1) (hc0_1 : l0_1.length ≤ c0_1) (h : isobathlaw05_exchange.f a0_0 l0_1 a1 a2_0 a2_1 a2_2 a2_3 a2_4 a2_5 a2_6 a2_7 = some (r1, r2, r3, r4, r5, r6, r7, r8)) :
    Calls Try.prog 53 #[.agg #[.int .i32 a0_0, .slice A0_1 l0_1.length c0_1], .int .i64 a1, .agg #[.int .u32 a2_0, .int .u16 a2_1, .int .u16 a2_2, .int .u16 a2_3, .int .u16 a2_4, .int .u16 a2_5, .int .u16 a2_6, .int .u16 a2_7]] w fun e w' => e = .returned (.agg #[.int .i64 r1, .int .i64 r2, .int .i64 r3, .int .i64 r4, .int .i64 r5, .int .i64 r6, .int .i64 r7, .int .i64 r8]) ∧ Below w.heap.size w w' := by
  cases h
  exact exchange_any a0_0 A0_1 c0_1 l0_1 a1 a2_0 a2_1 a2_2 a2_3 a2_4 a2_5 a2_6 a2_7 w hr0_1 hc0_1
end Go.Proofs.Ytcjdhajdoikojaa.Pr
end
