/- Part 14 of the proof of GliderKnown: what the functions compute. No condition. -/
import Derived.Test.YtmhaiihjfgfaoaaGkGliderKnown3
import Derived.Test.YtmhaiihjfgfaoaaGkGliderKnown12
set_option linter.unusedVariables false
set_option linter.unusedSimpArgs false
section
/- Runs, as the program makes them. -/
namespace Go.Proofs.Ytmhaiihjfgfaoaa.Gl
open Go.RowKit Go.Shelf Go.Proofs.YtmhaiihjfgfaoaaW.PrintWords Go.Proofs.YtmhaiihjfgfaoaaW.PrintLast Go.Proofs.YtmhaiihjfgfaoaaW.PrintMore Go.Proofs.Ytmhaiihjfgfaoaa.Pr Go.Proofs.YtmhaiihjfgfaoaaW.Round
set_option linter.unusedVariables false
set_option linter.unusedSimpArgs false
attribute [local go_sem] max2_int min2_int max_two min_two max_four
/-- The boxes of a run, its dives and its error, from a box and a second on. -/
def ranI (s : Sea) (v : Veh) : List S33 → S31 → Int → Int → List S31 → List S31 × Int × Int
 | [], _, _, n, out => (out, n, 0)
 | c :: l, x, t, n, out => if diveE s v x t ≠ 0 then ([], n, diveE s v x t) else ranI s v l (diveV s v x t c.f0 c.f1) (t + v.dive) (n + 1) (out ++ [diveV s v x t c.f0 c.f1])
/-- What a run returns. -/
def RunPost (R : List S31 × Int × Int) (w : World) (e : Ending) (w' : World) : Prop := ∃ v0_ : Value, e = .returned (.tuple #[v0_, .int .i64 R.2.1, .int .i64 R.2.2]) ∧ Kd.R k31 31 w' w.heap.size (fun _ => True) v0_ R.1 ∧ Below w.heap.size w w'
theorem crsE_ok {l : List S33} {layers : Int} (h : crsE l layers = 0) : l.length ≤ 64 ∧ l.all (crsB layers) = true := by
 unfold crsE at h
 by_cases h1 : l.length > 64
 ·rw [if_pos h1] at h; cases h
 ·rw [if_neg h1] at h
  cases hb : l.all (crsB layers) with
  | false => rw [hb] at h; cases h
  | true => exact ⟨by omega, rfl⟩
theorem crsB_ok {layers : Int} {c : S33} (hl : 1 ≤ layers) (h : crsB layers c = true) : (0 ≤ c.f0 ∧ c.f0 ≤ 8) ∧ 0 ≤ c.f1 ∧ c.f1 < layers := by
 unfold crsB at h
 simp only [Bool.and_eq_true, Bool.or_eq_true, decide_eq_true_eq, btwB_iff] at h
 omega
set_option maxRecDepth 100000 in
set_option maxHeartbeats 8000000 in
theorem run_any (b : Nat) (s : Sea) (v : Veh) (x : S31) (t : Int) (A : Option Addr) (c : Nat) (l : List S33) (w : World) (hT : TripAt w b s v) (hS : SeaV s) (hV : VehN v) (hx : BoxOK x) (ht0 : 0 ≤ t) (ht1 : t ≤ 1073741824) (hC : Kd.C k33 w A l.length l) (hc : l.length ≤ c) (hl : l.length ≤ 64) (hall : l.all (crsB s.layers) = true) :
  Calls Try.prog 83 #[.pointer (some ⟨b, 0, none⟩), .agg #[.int .i64 x.f0.f0, .int .i64 x.f0.f1, .int .i64 x.f1.f0, .int .i64 x.f1.f1], .int .i64 t, .slice A l.length c] w (RunPost (ranI s v l x t 0 []) w) := by
 have hu31 := Try.underlying31
 have hu33 := Try.underlying33
 have hu27 := Try.underlying27
 have hu29 := Try.underlying29
 have hu25 := Try.underlying25
 have hu110 := Try.underlying110
 have HALL := Lib.hid hall
 clear hall
 go_enter Try.func83, Try.ntmps83
 go_wp2_with fail
 have m5 : Blk (w.alloc (.cells #[.int .i64 x.f0.f0, .int .i64 x.f0.f1, .int .i64 x.f1.f0, .int .i64 x.f1.f1] 31)) (w.heap.size) #[.int .i64 x.f0.f0, .int .i64 x.f0.f1, .int .i64 x.f1.f0, .int .i64 x.f1.f1] 31 := zq21
 have mB : Below w.heap.size w (w.alloc (.cells #[.int .i64 x.f0.f0, .int .i64 x.f0.f1, .int .i64 x.f1.f0, .int .i64 x.f1.f1] 31)) := (below_alloc (Below.refl w.heap.size w) _)
 have hsz_ : w.heap.size ≤ w.heap.size := Nat.le_refl _
 generalize hW_ : (w.alloc (.cells #[.int .i64 x.f0.f0, .int .i64 x.f0.f1, .int .i64 x.f1.f0, .int .i64 x.f1.f1] 31)) = W1 at m5 mB ⊢
 clear hW_
 generalize hg5 : w.heap.size = g5 at m5 ⊢
 have hG5 : w.heap.size ≤ g5 := by omega
 clear hsz_
 try clear hg5
 have hs_W1 : w.heap.size ≤ W1.heap.size := mB.size
 go_wp2
 go_loopw [2, 11, 18] (fun tt o i wr => ∃ (k : Nat) (v_ : Value) (X : S31) (T : Int) (out : List S31), tt = .int .i64 T ∧ v_ = o ∧ i = .int .i64 k ∧ k ≤ l.length ∧ Hid (ranI s v l x t 0 [] = ranI s v (l.drop k) X T k out) ∧ Hid (out.length = k ∧ BoxOK X ∧ 0 ≤ T ∧ T ≤ 1073741824 + (k : Int) * 131072) ∧ Blk wr g5 #[.int .i64 X.f0.f0, .int .i64 X.f0.f1, .int .i64 X.f1.f0, .int .i64 X.f1.f1] 31 ∧ Kd.R k31 31 wr w.heap.size (fun q => q ≠ g5) v_ out ∧ Below w.heap.size w wr) (fun _ _ i _ => l.length - (intOf i).toNat)
 case atStart => exact ⟨0, _, x, t, [], rfl, rfl, rfl, Nat.zero_le _, Lib.hid rfl, Lib.hid ⟨rfl, hx, ht0, by omega⟩, m5, Kd.R_nil _ _ _ _ _, mB⟩
 case round =>
  clear m5 mB hx ht0 ht1
  obtain ⟨k, v_, X, T, out, rfl, rfl, rfl, hk, HR, HQ, m5, HO, mB⟩ := hrel
  have hs_wr : w.heap.size ≤ wr.heap.size := mB.size
  by_cases hlt : k < l.length
  case neg =>
   obtain rfl : k = l.length := by omega
   have HE := HR.out
   rw [List.drop_length] at HE
   have HE2 : Hid (ranI s v l x t 0 [] = (out, (l.length : Int), 0)) := Lib.hid HE
   clear HE HR HQ
   go_wp2
   go_ret3
   exact ⟨_, by rw [HE2.out]; rfl, by rw [HE2.out]; exact Kd.R_mono HO (fun _ _ => trivial), mB⟩
  case pos =>
   obtain ⟨ad_, e_, hx0, hx1⟩ := at_T33 hC k (by omega) (by omega)
   cases e_
   simp only [Int.toNat_natCast] at hx0 hx1
   replace hx0 := (mB.cell (World.block_lt_of_cell? w _ hx0)).trans hx0
   replace hx1 := (mB.cell (World.block_lt_of_cell? w _ hx1)).trans hx1
   have hdr : l.drop k = rd_T33 l (k : Int) :: l.drop (k + 1) := by rw [List.drop_eq_getElem_cons hlt]; simp [rd_T33, List.getD_eq_getElem?_getD, hlt]
   have hmem : rd_T33 l (k : Int) ∈ l := List.mem_of_getElem? (i := k) (by simp [rd_T33, List.getD_eq_getElem?_getD, hlt])
   have hcr := crsB_ok hS.n.layers.1 (List.all_eq_true.1 HALL.out _ hmem)
   clear hmem
   generalize rd_T33 l (k : Int) = d at *
   have HR2 : Hid (ranI s v l x t 0 [] = if diveE s v X T ≠ 0 then ([], (k : Int), diveE s v X T) else ranI s v (l.drop (k + 1)) (diveV s v X T d.f0 d.f1) (T + v.dive) ((k : Int) + 1) (out ++ [diveV s v X T d.f0 d.f1])) := Lib.hid (by rw [HR.out, hdr]; rfl)
   clear HR hdr
   obtain ⟨hol, hX, hT0, hT1⟩ := HQ.out
   obtain ⟨⟨hh0, hh1⟩, hl0, hl1⟩ := hcr
   have hdb := fun h => dive_box (t := T) (hd := d.f0) (layer := d.f1) hS hV hX h
   have hdv := hV.dive
   have HDV := Lib.hid hdv
   clear HQ
   have kD := fun W (h : TripAt W b s v) => dive_any b s v X T d.f0 d.f1 W h hS hV hX hT0 (by omega) hh0 hh1 hl0 hl1
   have HQ1 : Hid (out.length = k ∧ 0 ≤ T ∧ T ≤ 1073741824 + (k : Int) * 131072 ∧ (diveE s v X T = 0 → BoxOK (diveV s v X T d.f0 d.f1))) := Lib.hid ⟨hol, hT0, hT1, hdb⟩
   clear hol hX hT0 hT1 hh0 hh1 hl0 hl1 hdb hdv
   generalize diveV s v X T d.f0 d.f1 = Y at *
   generalize diveE s v X T = E at *
   have c5_0 : ∀ o_, (wr.alloc o_).cell? ⟨g5, 0, none⟩ = some (.int .i64 X.f0.f0) := fun o_ => (blk_cell (blk_alloc m5 o_) 0).trans rfl
   have c5_1 : ∀ o_, (wr.alloc o_).cell? ⟨g5, 1, none⟩ = some (.int .i64 X.f0.f1) := fun o_ => (blk_cell (blk_alloc m5 o_) 1).trans rfl
   have c5_2 : ∀ o_, (wr.alloc o_).cell? ⟨g5, 2, none⟩ = some (.int .i64 X.f1.f0) := fun o_ => (blk_cell (blk_alloc m5 o_) 2).trans rfl
   have c5_3 : ∀ o_, (wr.alloc o_).cell? ⟨g5, 3, none⟩ = some (.int .i64 X.f1.f1) := fun o_ => (blk_cell (blk_alloc m5 o_) 3).trans rfl
   go_wp2_with fail
   clear c5_0 c5_1 c5_2 c5_3
   clear hx0 hx1
   replace HO := Kd.R_below HO (below_alloc (Below.refl wr.heap.size wr) (.cells #[.int .i64 d.f0, .int .i64 d.f1] 33))
   have hl_5 := blk_lt m5
   have m13 : Blk (wr.alloc (.cells #[.int .i64 d.f0, .int .i64 d.f1] 33)) (wr.heap.size) #[.int .i64 d.f0, .int .i64 d.f1] 33 := zq42
   replace m5 : Blk (wr.alloc (.cells #[.int .i64 d.f0, .int .i64 d.f1] 33)) g5 #[.int .i64 X.f0.f0, .int .i64 X.f0.f1, .int .i64 X.f1.f0, .int .i64 X.f1.f1] 31 := (blk_alloc m5 _)
   replace mB : Below w.heap.size w (wr.alloc (.cells #[.int .i64 d.f0, .int .i64 d.f1] 33)) := (below_alloc mB _)
   have hsz_ : w.heap.size ≤ wr.heap.size := hs_wr
   generalize hW_ : (wr.alloc (.cells #[.int .i64 d.f0, .int .i64 d.f1] 33)) = W2 at m5 m13 mB HO ⊢
   clear hW_
   generalize hg13 : wr.heap.size = g13 at m13 ⊢
   have hn_5_13 : g5 ≠ g13 := by omega
   have hn_13_5 : g13 ≠ g5 := hn_5_13.symm
   have hG13 : w.heap.size ≤ g13 := by omega
   clear hsz_ hl_5
   try clear hg13
   have hs_W2 : w.heap.size ≤ W2.heap.size := mB.size
   have hcon := kD W2 (hT.below mB)
   clear kD
   (with_reducible refine hcon.mono ?_)
   clear hcon
   rintro e W3 ⟨rfl, hb⟩
   replace HO := Kd.R_below HO hb
   replace m5 := blk_below m5 hb
   replace m13 := blk_below m13 hb
   replace mB := below_step mB hb
   clear hb
   have hs_W3 : w.heap.size ≤ W3.heap.size := mB.size
   by_cases hE : E = 0
   case neg =>
    have HZ := Lib.hid (HR2.out.trans (if_pos hE))
    have hd1 : (E == 0) = false := beq_eq_false_iff_ne.2 hE
    have hd2 : (E != 0) = true := by rw [bne, hd1]; rfl
    clear hE HR2 HQ1
    go_wp2
    go_ret3
    exact ⟨_, zq14, zq43, by repeat (first | exact mB | apply below_alloc)⟩
   case pos =>
    have HR3 := Lib.hid (HR2.out.trans (if_neg (fun h => h hE)))
    have HQ2 : Hid (out.length = k ∧ 0 ≤ T ∧ T ≤ 1073741824 + (k : Int) * 131072 ∧ BoxOK Y) := Lib.hid ⟨HQ1.out.1, HQ1.out.2.1, HQ1.out.2.2.1, HQ1.out.2.2.2 hE⟩
    clear HR2 HQ1
    subst hE
    have hlt5 := blk_lt m5
    have hol : Hid ((out.length + 1) * 32 ≤ 140737488355328) := Lib.hid (by have := HQ2.out.1; omega)
    have hne5 : some g5 ≠ v_.ownBlock := fun h => HO.1 g5 h.symm rfl
    have hne14 : some W3.heap.size ≠ v_.ownBlock := fun h => by have := Kd.R_lt HO _ h.symm; omega
    go_wp2_with (first | ((with_reducible refine gate_builtin (b := .append) (xs := #[.tmp 35, .tmp 37]) rfl ?_); (try (refine gate_guard (by rfl) ?_; dsimp only)); at_builtin; go_loud (refine Kd.R_append k31 (w0 := w) w.heap.size rfl (.tmp 35) (.tmp 37) 50 31 (.agg #[.int .i64 0, .int .i64 0, .int .i64 0, .int .i64 0]) 32 rfl Try.underlying50 info31 rfl (by decide) (by decide) v_ out Y [.int .i64 Y.f0.f0, .int .i64 Y.f0.f1, .int .i64 Y.f1.f0, .int .i64 Y.f1.f1] (fun q => q ≠ g5) (fun _ => False) rfl (by first | rfl | (go_simp; done) | (go_simp; rfl)) ?aP (fun _ hk => hk.elim) ?aF ?aO ?aB ?aS ?aL ?_); (case aP => exact k31_mkM _ _ _ Y); (case aF => exact (fun q hq => by have h_ := blk_lt m5; simp only [World.size_alloc] at hq; omega)); (case aO => exact Kd.R_below HO (below_alloc (Below.refl _ _) _)); (case aB => exact below_alloc mB _); (case aS => (have h_ := mB.size; simp only [World.size_alloc]; omega)); (case aL => exact hol.out); intro v1 w1 HO1 hB1 hgr hat))
    replace m5 := blk_grown (blk_alloc m5 _) hgr hne5
    have m14 := blk_grown (blk_new W3 (.cells #[.int .i64 Y.f0.f0, .int .i64 Y.f0.f1, .int .i64 Y.f1.f0, .int .i64 Y.f1.f1] 31)) hgr hne14
    have hn_5_14 : g5 ≠ W3.heap.size := by have h_ := hlt5; omega
    clear hlt5
    clear hgr hat HO hne5 hne14 m13 mB hol
    generalize hg14 : W3.heap.size = g14 at m14 hn_5_14 ⊢
    have hn_14_5 := hn_5_14.symm
    clear hg14
    have mB := hB1
    clear hB1
    obtain ⟨A7, c7, A8, c8, mT, _⟩ := hT.below mB
    replace m5 := blk_drew m5
    replace m14 := blk_drew m14
    replace mT := blk_drew mT
    replace mB := below_drew1 mB
    replace HO1 := Kd.R_below HO1 (below_drew1 (Below.refl w1.heap.size w1))
    have hbn : b ≠ g5 := by have h_ := hT; obtain ⟨_, _, _, _, h_, _⟩ := h_; have h2_ := (Array.getElem?_eq_some_iff.1 h_).1; omega
    refine start_ (n := 10) (S := fun w' => w'.cell? ⟨g14, 0, none⟩ = some (.int .i64 Y.f0.f0) ∧ w'.cell? ⟨g14, 1, none⟩ = some (.int .i64 Y.f0.f1) ∧ w'.cell? ⟨g14, 2, none⟩ = some (.int .i64 Y.f1.f0) ∧ w'.cell? ⟨g14, 3, none⟩ = some (.int .i64 Y.f1.f1) ∧ w'.cell? ⟨b, 10, none⟩ = some (.int .i64 v.dive)) (ds := []) #[false, false, false, false, false, false, false, false, false, false] zq1 rfl rfl ⟨((blk_cell m14 0).trans rfl), ((blk_cell m14 1).trans rfl), ((blk_cell m14 2).trans rfl), ((blk_cell m14 3).trans rfl), ((blk_cell mT 10).trans rfl)⟩ (fun hHeld => ?_)
    generalize hWd : World.drew _ = Wx at *
    clear hWd
    refine zpz (i := 1) (N := some 40) zq1 ?_
    refine zpz (i := 2) (N := some 41) zq1 ?_
    refine zpz (i := 3) (N := some 42) zq1 ?_
    refine zpz (i := 4) (N := some 43) zq1 ?_
    refine zpz (i := 5) (N := some 44) zq1 ?_
    refine ztz (i := 0) (N := some 39) zq1 hHeld ?_
    refine ztz (i := 6) (N := some 45) zq1 hHeld ?_
    refine zpz (i := 7) (N := some 46) zq1 ?_
    refine one_ (i := 8) (N := none) #[true, true, true, true, true, true, true, true, true, false] rfl rfl zq1 (by decide) (fun K hK => ?_)
    have hf0_ := blk_frozen m5 0
    have hf1_ := blk_frozen m5 1
    have hf2_ := blk_frozen m5 2
    have hf3_ := blk_frozen m5 3
    have hc0_ := (blk_cell m5 0).trans rfl
    have hc1_ := (blk_cell m5 1).trans rfl
    have hc2_ := (blk_cell m5 2).trans rfl
    have hc3_ := (blk_cell m5 3).trans rfl
    refine skip_ (w1 := ?_) (by rfl) rfl ?_ ?_
    rotate_left
    ·go_simp
     rfl
    refine hK.out _ _ ⟨((blk_cell (blk_far (p := ⟨g5, 3, none⟩) (blk_far (p := ⟨g5, 2, none⟩) (blk_far (p := ⟨g5, 1, none⟩) (blk_far (p := ⟨g5, 0, none⟩) m14 hn_14_5 _) hn_14_5 _) hn_14_5 _) hn_14_5 _) 0).trans rfl), ((blk_cell (blk_far (p := ⟨g5, 3, none⟩) (blk_far (p := ⟨g5, 2, none⟩) (blk_far (p := ⟨g5, 1, none⟩) (blk_far (p := ⟨g5, 0, none⟩) m14 hn_14_5 _) hn_14_5 _) hn_14_5 _) hn_14_5 _) 1).trans rfl), ((blk_cell (blk_far (p := ⟨g5, 3, none⟩) (blk_far (p := ⟨g5, 2, none⟩) (blk_far (p := ⟨g5, 1, none⟩) (blk_far (p := ⟨g5, 0, none⟩) m14 hn_14_5 _) hn_14_5 _) hn_14_5 _) hn_14_5 _) 2).trans rfl), ((blk_cell (blk_far (p := ⟨g5, 3, none⟩) (blk_far (p := ⟨g5, 2, none⟩) (blk_far (p := ⟨g5, 1, none⟩) (blk_far (p := ⟨g5, 0, none⟩) m14 hn_14_5 _) hn_14_5 _) hn_14_5 _) hn_14_5 _) 3).trans rfl), ((blk_cell (blk_far (p := ⟨g5, 3, none⟩) (blk_far (p := ⟨g5, 2, none⟩) (blk_far (p := ⟨g5, 1, none⟩) (blk_far (p := ⟨g5, 0, none⟩) mT hbn _) hbn _) hbn _) hbn _) 10).trans rfl)⟩ (fun hHeld => ?_)
    clear hK K
    refine zpz (i := 9) (N := some 2) zq1 ?_
    refine done_ zq1 ?_
    go_wp2
    go_roundw
    case rel =>
     have hq := HQ2.out
     have hv := HDV.out
     have hwr : wrap64 (T + v.dive) = T + v.dive := by unfold wrap64; omega
     exact ⟨k + 1, v1, Y, T + v.dive, out ++ [Y], by rw [hwr], rfl, by simp, by omega, Lib.hid HR3.out, Lib.hid ⟨by rw [List.length_append]; simp; omega, hq.2.2.2, by omega, by omega⟩, (blk_put (blk_put (blk_put (blk_put m5 0 (.int .i64 Y.f0.f0) rfl) 1 (.int .i64 Y.f0.f1) rfl) 2 (.int .i64 Y.f1.f0) rfl) 3 (.int .i64 Y.f1.f1) rfl), (Kd.R_far (p := ⟨g5, 3, none⟩) (Kd.R_far (p := ⟨g5, 2, none⟩) (Kd.R_far (p := ⟨g5, 1, none⟩) (Kd.R_far (p := ⟨g5, 0, none⟩) HO1 (fun _ hk => hk) _) (fun _ hk => hk) _) (fun _ hk => hk) _) (fun _ hk => hk) _), (Below.setCell (p := ⟨g5, 3, none⟩) (Below.setCell (p := ⟨g5, 2, none⟩) (Below.setCell (p := ⟨g5, 1, none⟩) (Below.setCell (p := ⟨g5, 0, none⟩) mB hG5 _) hG5 _) hG5 _) hG5 _)⟩
    case measure => simp [intOf]; omega
/-- What Run returns. -/
def RunX (s : Sea) (v : Veh) (x : S31) (t : Int) (l : List S33) : List S31 × Int × Int := if beginE s v x t ≠ 0 then ([], 0, beginE s v x t) else if crsE l s.layers ≠ 0 then ([], 0, crsE l s.layers) else ranI s v l x t 0 []
set_option maxRecDepth 100000 in
set_option maxHeartbeats 8000000 in
theorem Run_any (s : Sea) (v : Veh) (x : S31) (t : Int) (A : Option Addr) (c : Nat) (l : List S33) (A7 A8 : Option Addr) (c7 c8 : Nat) (w : World) (h7 : s.shores.length ≤ c7) (hC7 : Kd.C Kd.bool w A7 s.shores.length s.shores) (h8 : s.currents.length ≤ c8) (hC8 : Kd.C k40 w A8 s.currents.length s.currents) (hC : Kd.C k33 w A l.length l) (hc : l.length ≤ c) :
  Calls Try.prog 30 #[.agg #[.int .i64 s.nx, .int .i64 s.ny, .int .i64 s.cell, .int .i64 s.slot, .int .i64 s.slots, .int .i64 s.layers, .int .i64 s.most, .slice A7 s.shores.length c7, .slice A8 s.currents.length c8], .agg #[.int .i64 v.speed, .int .i64 v.dive, .int .i64 v.use.f0, .int .i64 v.use.f1, .int .i64 v.drift.f0, .int .i64 v.drift.f1, .int .i64 v.reserve], .agg #[.int .i64 x.f0.f0, .int .i64 x.f0.f1, .int .i64 x.f1.f0, .int .i64 x.f1.f1], .int .i64 t, .slice A l.length c] w (RunPost (RunX s v x t l) w) := by
 have hu25 := Try.underlying25
 have hu29 := Try.underlying29
 have hu31 := Try.underlying31
 have hu33 := Try.underlying33
 have hu27 := Try.underlying27
 have HX : Hid (RunX s v x t l = if beginE s v x t ≠ 0 then ([], 0, beginE s v x t) else if crsE l s.layers ≠ 0 then ([], 0, crsE l s.layers) else ranI s v l x t 0 []) := Lib.hid rfl
 go_enter Try.func30, Try.ntmps30
 go_wp2_with fail
 have m5 : Blk (((w.alloc (.cells #[.int .i64 s.nx, .int .i64 s.ny, .int .i64 s.cell, .int .i64 s.slot, .int .i64 s.slots, .int .i64 s.layers, .int .i64 s.most, .slice A7 s.shores.length c7, .slice A8 s.currents.length c8] 25)).alloc (.cells #[.int .i64 v.speed, .int .i64 v.dive, .int .i64 v.use.f0, .int .i64 v.use.f1, .int .i64 v.drift.f0, .int .i64 v.drift.f1, .int .i64 v.reserve] 29)).alloc (.cells #[.int .i64 x.f0.f0, .int .i64 x.f0.f1, .int .i64 x.f1.f0, .int .i64 x.f1.f1] 31)) (w.heap.size) #[.int .i64 s.nx, .int .i64 s.ny, .int .i64 s.cell, .int .i64 s.slot, .int .i64 s.slots, .int .i64 s.layers, .int .i64 s.most, .slice A7 s.shores.length c7, .slice A8 s.currents.length c8] 25 := (blk_alloc (blk_alloc zq13 _) _)
 have m6 : Blk (((w.alloc (.cells #[.int .i64 s.nx, .int .i64 s.ny, .int .i64 s.cell, .int .i64 s.slot, .int .i64 s.slots, .int .i64 s.layers, .int .i64 s.most, .slice A7 s.shores.length c7, .slice A8 s.currents.length c8] 25)).alloc (.cells #[.int .i64 v.speed, .int .i64 v.dive, .int .i64 v.use.f0, .int .i64 v.use.f1, .int .i64 v.drift.f0, .int .i64 v.drift.f1, .int .i64 v.reserve] 29)).alloc (.cells #[.int .i64 x.f0.f0, .int .i64 x.f0.f1, .int .i64 x.f1.f0, .int .i64 x.f1.f1] 31)) (w.heap.size + 1) #[.int .i64 v.speed, .int .i64 v.dive, .int .i64 v.use.f0, .int .i64 v.use.f1, .int .i64 v.drift.f0, .int .i64 v.drift.f1, .int .i64 v.reserve] 29 := (blk_alloc zq35 _)
 have m7 : Blk (((w.alloc (.cells #[.int .i64 s.nx, .int .i64 s.ny, .int .i64 s.cell, .int .i64 s.slot, .int .i64 s.slots, .int .i64 s.layers, .int .i64 s.most, .slice A7 s.shores.length c7, .slice A8 s.currents.length c8] 25)).alloc (.cells #[.int .i64 v.speed, .int .i64 v.dive, .int .i64 v.use.f0, .int .i64 v.use.f1, .int .i64 v.drift.f0, .int .i64 v.drift.f1, .int .i64 v.reserve] 29)).alloc (.cells #[.int .i64 x.f0.f0, .int .i64 x.f0.f1, .int .i64 x.f1.f0, .int .i64 x.f1.f1] 31)) (w.heap.size + 1 + 1) #[.int .i64 x.f0.f0, .int .i64 x.f0.f1, .int .i64 x.f1.f0, .int .i64 x.f1.f1] 31 := zq36
 have mB : Below w.heap.size w (((w.alloc (.cells #[.int .i64 s.nx, .int .i64 s.ny, .int .i64 s.cell, .int .i64 s.slot, .int .i64 s.slots, .int .i64 s.layers, .int .i64 s.most, .slice A7 s.shores.length c7, .slice A8 s.currents.length c8] 25)).alloc (.cells #[.int .i64 v.speed, .int .i64 v.dive, .int .i64 v.use.f0, .int .i64 v.use.f1, .int .i64 v.drift.f0, .int .i64 v.drift.f1, .int .i64 v.reserve] 29)).alloc (.cells #[.int .i64 x.f0.f0, .int .i64 x.f0.f1, .int .i64 x.f1.f0, .int .i64 x.f1.f1] 31)) := (below_alloc (below_alloc (below_alloc (Below.refl w.heap.size w) _) _) _)
 have hsz_ : w.heap.size ≤ w.heap.size := Nat.le_refl _
 generalize hW_ : (((w.alloc (.cells #[.int .i64 s.nx, .int .i64 s.ny, .int .i64 s.cell, .int .i64 s.slot, .int .i64 s.slots, .int .i64 s.layers, .int .i64 s.most, .slice A7 s.shores.length c7, .slice A8 s.currents.length c8] 25)).alloc (.cells #[.int .i64 v.speed, .int .i64 v.dive, .int .i64 v.use.f0, .int .i64 v.use.f1, .int .i64 v.drift.f0, .int .i64 v.drift.f1, .int .i64 v.reserve] 29)).alloc (.cells #[.int .i64 x.f0.f0, .int .i64 x.f0.f1, .int .i64 x.f1.f0, .int .i64 x.f1.f1] 31)) = W1 at m5 m6 m7 mB ⊢
 clear hW_
 generalize hg5 : w.heap.size = g5 at m5 m6 m7 ⊢
 have hG5 : w.heap.size ≤ g5 := by omega
 generalize hg6 : g5 + 1 = g6 at m6 m7 ⊢
 have hn_5_6 : g5 ≠ g6 := by omega
 have hn_6_5 : g6 ≠ g5 := hn_5_6.symm
 have hG6 : w.heap.size ≤ g6 := by omega
 generalize hg7 : g6 + 1 = g7 at m7 ⊢
 have hn_5_7 : g5 ≠ g7 := by omega
 have hn_6_7 : g6 ≠ g7 := by omega
 have hn_7_5 : g7 ≠ g5 := hn_5_7.symm
 have hn_7_6 : g7 ≠ g6 := hn_6_7.symm
 have hG7 : w.heap.size ≤ g7 := by omega
 clear hsz_
 try clear hg7
 try clear hg6
 try clear hg5
 have hs_W1 : w.heap.size ≤ W1.heap.size := mB.size
 have hbg : beginE s v x t = if tripE s v ≠ 0 then tripE s v else placeE x t := rfl
 have HBG := Lib.hid hbg
 clear hbg
 obtain ⟨c5_0, c5_1, c5_2, c5_3, c5_4, c5_5, c5_6, c5_7, c5_8⟩ := zcs9 m5
 obtain ⟨c6_0, c6_1, c6_2, c6_3, c6_4, c6_5, c6_6⟩ := zcs7 m6
 obtain ⟨c7_0, c7_1, c7_2, c7_3⟩ := zcs4 m7
 go_wp2_with fail
 clear c5_0 c5_1 c5_2 c5_3 c5_4 c5_5 c5_6 c5_7 c5_8 c6_0 c6_1 c6_2 c6_3 c6_4 c6_5 c6_6 c7_0 c7_1 c7_2 c7_3
 have hcon := begin_any s v x t A7 A8 c7 c8 W1 h7 (Kd.C_below hC7 mB) h8 (Kd.C_below hC8 mB)
 (with_reducible refine hcon.mono ?_)
 clear hcon
 rintro e W2 ⟨ptr, rfl, hb, hpt⟩
 replace m5 := blk_below m5 hb
 replace m6 := blk_below m6 hb
 replace m7 := blk_below m7 hb
 replace mB := below_step mB hb
 clear hb
 have hs_W2 : w.heap.size ≤ W2.heap.size := mB.size
 generalize hE_ : beginE s v x t = E0 at *
 have HE0 := Lib.hid hE_
 clear hE_
 by_cases h0 : E0 = 0
 case neg =>
  have HZ := Lib.hid (HX.out.trans (if_pos h0))
  have hd1 : (E0 == 0) = false := beq_eq_false_iff_ne.2 h0
  have hd2 : (E0 != 0) = true := by rw [bne, hd1]; rfl
  clear h0 hpt HX
  go_wp2
  go_ret3
  exact ⟨_, zq14, zq43, mB⟩
 case pos =>
  have HX2 := Lib.hid (HX.out.trans (if_neg (fun h => h h0)))
  clear HX
  have hb0 := HBG.out.symm.trans h0
  obtain ⟨ht0, hp0⟩ := ite_ne_zero hb0
  obtain ⟨hbx, htt0, htt1⟩ := place_ok hp0
  obtain ⟨hSV, hVN⟩ := tripE_ok ht0
  rcases hpt with ⟨_, g, rfl, hg, hT⟩ | ⟨hbad, _⟩
  case inr => exact absurd ht0 hbad
  case inl =>
   subst h0
   clear hb0 ht0 hp0 HBG
   obtain ⟨c5_0, c5_1, c5_2, c5_3, c5_4, c5_5, c5_6, c5_7, c5_8⟩ := zcs9 m5
   go_wp2_with fail
   clear c5_0 c5_1 c5_2 c5_3 c5_4 c5_5 c5_6 c5_7 c5_8
   have hcon := crs_any A c l s.layers W2 (Kd.C_below hC mB) hc
   (with_reducible refine hcon.mono ?_)
   clear hcon
   rintro e W4 ⟨rfl, hb⟩
   replace hT := hT.below hb
   replace m5 := blk_below m5 hb
   replace m6 := blk_below m6 hb
   replace m7 := blk_below m7 hb
   replace mB := below_step mB hb
   clear hb
   have hs_W4 : w.heap.size ≤ W4.heap.size := mB.size
   have hc1 := fun h => crsE_ok (l := l) (layers := s.layers) h
   generalize crsE l s.layers = E1 at *
   by_cases h1 : E1 = 0
   case neg =>
    have HZ := Lib.hid (HX2.out.trans (if_pos h1))
    have hd1 : (E1 == 0) = false := beq_eq_false_iff_ne.2 h1
    have hd2 : (E1 != 0) = true := by rw [bne, hd1]; rfl
    clear h1 hc1 HX2
    go_wp2
    go_ret3
    exact ⟨_, zq14, zq43, mB⟩
   case pos =>
    obtain ⟨hl64, hall⟩ := hc1 h1
    have HX3 := Lib.hid (HX2.out.trans (if_neg (fun h => h h1)))
    clear HX2 hc1
    subst h1
    obtain ⟨c7_0, c7_1, c7_2, c7_3⟩ := zcs4 m7
    go_wp2_with fail
    clear c7_0 c7_1 c7_2 c7_3
    have hcon := run_any g s v x t A c l W4 hT hSV hVN hbx htt0 htt1 (Kd.C_below hC mB) hc hl64 hall
    (with_reducible refine hcon.mono ?_)
    clear hcon
    rintro e W5 ⟨v0_, rfl, HR, hb⟩
    generalize ranI s v l x t 0 [] = R at *
    go_wp2
    go_ret3
    exact ⟨_, by rw [HX3.out]; rfl, by rw [HX3.out]; exact Kd.R_lower HR mB.size, below_step mB hb⟩
end Go.Proofs.Ytmhaiihjfgfaoaa.Gl
end
section
namespace Go.Proofs.Ytmhaiihjfgfaoaa.Pr
open Go.RowKit Go.Proofs.YtmhaiihjfgfaoaaW.PrintWords Go.Proofs.YtmhaiihjfgfaoaaW.PrintLast Go.Proofs.YtmhaiihjfgfaoaaW.PrintMore
attribute [local go_sem] max2_int min2_int max_two min_two max_four
set_option linter.unusedVariables false
set_option linter.unusedSimpArgs false

/-! ### glider_takes: function 109 -/
def glider_takes.f (a0_0 : Int) (a0_1 : Int) (a0_2 : Int) (a0_3 : Int) (a0_4 : Int) (a0_5 : Int) (a0_6 : Int) (a1_0 : Int) (a1_1 : Int) : Option (Int × Int) := if a1_0 = 8 then (some (a0_4, a0_5)) else (some (a0_2, a0_3))
set_option maxHeartbeats 8000000 in
set_option maxRecDepth 100000 in
theorem glider_takes.calls (a0_0 : Int) (a0_1 : Int) (a0_2 : Int) (a0_3 : Int) (a0_4 : Int) (a0_5 : Int) (a0_6 : Int) (a1_0 : Int) (a1_1 : Int) (r1 : Int) (r2 : Int) (w : World) (h : glider_takes.f a0_0 a0_1 a0_2 a0_3 a0_4 a0_5 a0_6 a1_0 a1_1 = some (r1, r2)) :
  Calls Try.prog 109 #[.agg #[.int .i64 a0_0, .int .i64 a0_1, .int .i64 a0_2, .int .i64 a0_3, .int .i64 a0_4, .int .i64 a0_5, .int .i64 a0_6], .agg #[.int .i64 a1_0, .int .i64 a1_1]] w fun e w' => e = .returned (.agg #[.int .i64 r1, .int .i64 r2]) ∧ Below w.heap.size w w' := by
 have hu29 := Try.underlying29
 have hu33 := Try.underlying33
 have hu27 := Try.underlying27
 have HB := Aside0.mk (Below.refl w.heap.size w)
 have H : (if a1_0 = 8 then (some (a0_4, a0_5)) else (some (a0_2, a0_3))) = some (r1, r2) := h
 clear h
 by_cases c3 : a1_0 = 8
 ·rw [if_pos c3] at H
  have c3b0 : (a1_0 == 8) = true := beq_iff_eq.mpr c3
  have c3b1 : (a1_0 != 8) = false := bne_eq_false_iff_eq.mpr c3
  clear c3
  simp only [Option.some.injEq, Prod.mk.injEq] at H
  obtain ⟨rfl, rfl⟩ := H
  go_enter Try.func109, Try.ntmps109
  go_wp2_with (first | ((with_reducible refine gate_dst (N := 2) rfl ?_); refine box_event (by rfl) (N := 2) (by rfl) (cs := #[.int .i64 a0_0, .int .i64 a0_1, .int .i64 a0_2, .int .i64 a0_3, .int .i64 a0_4, .int .i64 a0_5, .int .i64 a0_6]) (t := 29) zq4 ?_; intro gb594 hg w4 hbox hb; have BK594 := Aside0.mk (hbox); have GW594 := zgs HB hg; have GE594 := zgs HB hg; replace HB := zbs HB hb; clear hb hbox hg) | ((with_reducible refine gate_dst (N := 3) rfl ?_); refine box_event (by rfl) (N := 3) (by rfl) (cs := #[.int .i64 a1_0, .int .i64 a1_1]) (t := 33) zq4 ?_; intro gb595 hg w5 hbox hb; have BK595 := Aside0.mk (hbox); have GW595 := zgs HB hg; have GE595 := zgs HB hg; have NB594_595 := znp BK594 hg; have NB595_594 := znq BK594 hg; replace BK594 := zbb BK594 hb; replace HB := zbs HB hb; clear hb hbox hg) | ((with_reducible refine gate_dst (N := 4) rfl ?_); refine box_event (by rfl) (N := 4) (by rfl) (cs := #[.int .i64 0, .int .i64 0]) (t := 27) zq4 ?_; intro gb596 hg w6 hbox hb; have BK596 := Aside0.mk (hbox); have GW596 := zgs HB hg; have GE596 := zgs HB hg; have NB594_596 := znp BK594 hg; have NB596_594 := znq BK594 hg; have NB595_596 := znp BK595 hg; have NB596_595 := znq BK595 hg; replace BK594 := zbb BK594 hb; replace BK595 := zbb BK595 hb; replace HB := zbs HB hb; clear hb hbox hg; have hnb7 := NB595_594.out; have hnc7 := NB594_595.out; have hnb8 := NB595_596.out; have hnc8 := NB596_595.out; obtain ⟨hcz9_0, hcz9_1, hfz9_0, hfz9_1⟩ := zce2 BK595.out; have hnb10 := NB594_596.out; have hnc10 := NB596_594.out; obtain ⟨hcz11_0, hcz11_1, hcz11_2, hcz11_3, hcz11_4, hcz11_5, hcz11_6, hfz11_0, hfz11_1, hfz11_2, hfz11_3, hfz11_4, hfz11_5, hfz11_6⟩ := zce7 BK594.out; obtain ⟨hcz12_0, hcz12_1, hfz12_0, hfz12_1⟩ := zce2 BK596.out))
  refine bodyPost_ret (results_cell_row rfl _ _ gb596 27 #[.int .i64 a0_4, .int .i64 a0_5] (0, 0) _ rfl (by (with_reducible repeat (first | refine blk_drewN ?_ _ | refine blk_drew ?_ | refine blk_alloc ?_ _)); refine blk_put (cs := #[.int .i64 a0_4, .int .i64 0]) ?_ 1 _ rfl; (with_reducible repeat (first | refine blk_drewN ?_ _ | refine blk_drew ?_ | refine blk_alloc ?_ _)); refine blk_put (cs := #[.int .i64 0, .int .i64 0]) ?_ 0 _ rfl; (with_reducible repeat (first | refine blk_drewN ?_ _ | refine blk_drew ?_ | refine blk_alloc ?_ _)); exact BK596.out) Try.underlying27 rfl zq1) rfl ?_
  exact ⟨zq5, zbz⟩
 ·rw [if_neg c3] at H
  have c3b0 : (a1_0 == 8) = false := beq_eq_false_iff_ne.mpr c3
  have c3b1 : (a1_0 != 8) = true := bne_iff_ne.mpr c3
  simp only [Option.some.injEq, Prod.mk.injEq] at H
  obtain ⟨rfl, rfl⟩ := H
  go_enter Try.func109, Try.ntmps109
  go_wp2_with (first | ((with_reducible refine gate_dst (N := 2) rfl ?_); refine box_event (by rfl) (N := 2) (by rfl) (cs := #[.int .i64 a0_0, .int .i64 a0_1, .int .i64 a0_2, .int .i64 a0_3, .int .i64 a0_4, .int .i64 a0_5, .int .i64 a0_6]) (t := 29) zq4 ?_; intro gb594 hg w13 hbox hb; have BK594 := Aside0.mk (hbox); have GW594 := zgs HB hg; have GE594 := zgs HB hg; replace HB := zbs HB hb; clear hb hbox hg) | ((with_reducible refine gate_dst (N := 3) rfl ?_); refine box_event (by rfl) (N := 3) (by rfl) (cs := #[.int .i64 a1_0, .int .i64 a1_1]) (t := 33) zq4 ?_; intro gb595 hg w14 hbox hb; have BK595 := Aside0.mk (hbox); have GW595 := zgs HB hg; have GE595 := zgs HB hg; have NB594_595 := znp BK594 hg; have NB595_594 := znq BK594 hg; replace BK594 := zbb BK594 hb; replace HB := zbs HB hb; clear hb hbox hg) | ((with_reducible refine gate_dst (N := 4) rfl ?_); refine box_event (by rfl) (N := 4) (by rfl) (cs := #[.int .i64 0, .int .i64 0]) (t := 27) zq4 ?_; intro gb596 hg w15 hbox hb; have BK596 := Aside0.mk (hbox); have GW596 := zgs HB hg; have GE596 := zgs HB hg; have NB594_596 := znp BK594 hg; have NB596_594 := znq BK594 hg; have NB595_596 := znp BK595 hg; have NB596_595 := znq BK595 hg; replace BK594 := zbb BK594 hb; replace BK595 := zbb BK595 hb; replace HB := zbs HB hb; clear hb hbox hg; have hnb16 := NB595_594.out; have hnc16 := NB594_595.out; have hnb17 := NB595_596.out; have hnc17 := NB596_595.out; obtain ⟨hcz18_0, hcz18_1, hfz18_0, hfz18_1⟩ := zce2 BK595.out; have hnb19 := NB594_596.out; have hnc19 := NB596_594.out; obtain ⟨hcz20_0, hcz20_1, hcz20_2, hcz20_3, hcz20_4, hcz20_5, hcz20_6, hfz20_0, hfz20_1, hfz20_2, hfz20_3, hfz20_4, hfz20_5, hfz20_6⟩ := zce7 BK594.out; obtain ⟨hcz21_0, hcz21_1, hfz21_0, hfz21_1⟩ := zce2 BK596.out))
  refine bodyPost_ret (results_cell_row rfl _ _ gb596 27 #[.int .i64 a0_2, .int .i64 a0_3] (0, 0) _ rfl (by (with_reducible repeat (first | refine blk_drewN ?_ _ | refine blk_drew ?_ | refine blk_alloc ?_ _)); refine blk_put (cs := #[.int .i64 a0_2, .int .i64 0]) ?_ 1 _ rfl; (with_reducible repeat (first | refine blk_drewN ?_ _ | refine blk_drew ?_ | refine blk_alloc ?_ _)); refine blk_put (cs := #[.int .i64 0, .int .i64 0]) ?_ 0 _ rfl; (with_reducible repeat (first | refine blk_drewN ?_ _ | refine blk_drew ?_ | refine blk_alloc ?_ _)); exact BK596.out) Try.underlying27 rfl zq1) rfl ?_
  exact ⟨zq5, zbz⟩

end Go.Proofs.Ytmhaiihjfgfaoaa.Pr
end
section
/- The energy that is left, as the program reckons it. -/
namespace Go.Proofs.Ytmhaiihjfgfaoaa.Gl
open Go.RowKit Go.Shelf Go.Proofs.YtmhaiihjfgfaoaaW.PrintWords Go.Proofs.YtmhaiihjfgfaoaaW.PrintLast Go.Proofs.YtmhaiihjfgfaoaaW.PrintMore Go.Proofs.Ytmhaiihjfgfaoaa.Pr Go.Proofs.YtmhaiihjfgfaoaaW.Round
set_option linter.unusedVariables false
set_option linter.unusedSimpArgs false
attribute [local go_sem] max2_int min2_int max_two min_two max_four
/-- The energy that a dive takes. -/
def takeI (v : Veh) (c : S33) : S27 := if c.f0 = 8 then v.drift else v.use
theorem takes_any (v : Veh) (c : S33) (w : World) : Calls Try.prog 109 #[.agg #[.int .i64 v.speed, .int .i64 v.dive, .int .i64 v.use.f0, .int .i64 v.use.f1, .int .i64 v.drift.f0, .int .i64 v.drift.f1, .int .i64 v.reserve], .agg #[.int .i64 c.f0, .int .i64 c.f1]] w (RetB (.agg #[.int .i64 (takeI v c).f0, .int .i64 (takeI v c).f1]) w) :=
 glider_takes.calls _ _ _ _ _ _ _ _ _ (takeI v c).f0 (takeI v c).f1 w (by unfold glider_takes.f takeI; split <;> rfl)
/-- The energies that are left, how many, and the error. -/
def enI (v : Veh) : List S33 → S27 → Int → List S27 → List S27 × Int × Int
 | [], _, n, out => (out, n, 0)
 | c :: l, e, n, out => if e.f0 - (takeI v c).f1 < v.reserve then ([], n, 19) else enI v l ⟨e.f0 - (takeI v c).f1, e.f1 - (takeI v c).f0⟩ (n + 1) (out ++ [⟨e.f0 - (takeI v c).f1, e.f1 - (takeI v c).f0⟩])
def EnPost (R : List S27 × Int × Int) (w : World) (e : Ending) (w' : World) : Prop := ∃ v0_ : Value, e = .returned (.tuple #[v0_, .int .i64 R.2.1, .int .i64 R.2.2]) ∧ Kd.R k27 27 w' w.heap.size (fun _ => True) v0_ R.1 ∧ Below w.heap.size w w'
theorem vehB_use {v : Veh} (h : vehB v = true) (c : S33) : 0 ≤ (takeI v c).f0 ∧ (takeI v c).f0 ≤ (takeI v c).f1 ∧ (takeI v c).f1 ≤ 1073741824 := by
 unfold vehB at h
 simp only [Bool.and_eq_true, bndB_iff] at h
 unfold takeI
 split
 ·omega
 ·omega
theorem vehB_res {v : Veh} (h : vehB v = true) : 0 ≤ v.reserve ∧ v.reserve ≤ 1073741824 := by
 unfold vehB at h
 simp only [Bool.and_eq_true, btwB_iff] at h
 exact h.2
set_option maxRecDepth 100000 in
set_option maxHeartbeats 8000000 in
theorem energy_any (v : Veh) (e : S27) (A : Option Addr) (c : Nat) (l : List S33) (w : World) (hv : vehB v = true) (he : bndB e.f0 e.f1 0 1073741824 = true) (hC : Kd.C k33 w A l.length l) (hc : l.length ≤ c) (hl : l.length ≤ 64) :
  Calls Try.prog 85 #[.agg #[.int .i64 v.speed, .int .i64 v.dive, .int .i64 v.use.f0, .int .i64 v.use.f1, .int .i64 v.drift.f0, .int .i64 v.drift.f1, .int .i64 v.reserve], .agg #[.int .i64 e.f0, .int .i64 e.f1], .slice A l.length c] w (EnPost (enI v l e 0 []) w) := by
 have hu33 := Try.underlying33
 have hu27 := Try.underlying27
 have hu29 := Try.underlying29
 have he' := bndB_iff.1 he
 have hres := vehB_res hv
 have HV := Lib.hid hv
 clear hv he
 go_enter Try.func85, Try.ntmps85
 go_wp2_with fail
 have m3 : Blk ((w.alloc (.cells #[.int .i64 v.speed, .int .i64 v.dive, .int .i64 v.use.f0, .int .i64 v.use.f1, .int .i64 v.drift.f0, .int .i64 v.drift.f1, .int .i64 v.reserve] 29)).alloc (.cells #[.int .i64 e.f0, .int .i64 e.f1] 27)) (w.heap.size) #[.int .i64 v.speed, .int .i64 v.dive, .int .i64 v.use.f0, .int .i64 v.use.f1, .int .i64 v.drift.f0, .int .i64 v.drift.f1, .int .i64 v.reserve] 29 := (blk_alloc (by have h_ := blk_new w (.cells #[.int .i64 v.speed, .int .i64 v.dive, .int .i64 v.use.f0, .int .i64 v.use.f1, .int .i64 v.drift.f0, .int .i64 v.drift.f1, .int .i64 v.reserve] 29); first | exact h_ | (simp only [World.size_alloc] at h_; exact h_)) _)
 have m4 : Blk ((w.alloc (.cells #[.int .i64 v.speed, .int .i64 v.dive, .int .i64 v.use.f0, .int .i64 v.use.f1, .int .i64 v.drift.f0, .int .i64 v.drift.f1, .int .i64 v.reserve] 29)).alloc (.cells #[.int .i64 e.f0, .int .i64 e.f1] 27)) (w.heap.size + 1) #[.int .i64 e.f0, .int .i64 e.f1] 27 := (by have h_ := blk_new (w.alloc (.cells #[.int .i64 v.speed, .int .i64 v.dive, .int .i64 v.use.f0, .int .i64 v.use.f1, .int .i64 v.drift.f0, .int .i64 v.drift.f1, .int .i64 v.reserve] 29)) (.cells #[.int .i64 e.f0, .int .i64 e.f1] 27); first | exact h_ | (simp only [World.size_alloc] at h_; exact h_))
 have mB : Below w.heap.size w ((w.alloc (.cells #[.int .i64 v.speed, .int .i64 v.dive, .int .i64 v.use.f0, .int .i64 v.use.f1, .int .i64 v.drift.f0, .int .i64 v.drift.f1, .int .i64 v.reserve] 29)).alloc (.cells #[.int .i64 e.f0, .int .i64 e.f1] 27)) := (below_alloc (below_alloc (Below.refl w.heap.size w) _) _)
 have hsz_ : w.heap.size ≤ w.heap.size := Nat.le_refl _
 generalize hW_ : ((w.alloc (.cells #[.int .i64 v.speed, .int .i64 v.dive, .int .i64 v.use.f0, .int .i64 v.use.f1, .int .i64 v.drift.f0, .int .i64 v.drift.f1, .int .i64 v.reserve] 29)).alloc (.cells #[.int .i64 e.f0, .int .i64 e.f1] 27)) = W1 at m3 m4 mB ⊢
 clear hW_
 generalize hg3 : w.heap.size = g3 at m3 m4 ⊢
 have hG3 : w.heap.size ≤ g3 := by omega
 generalize hg4 : g3 + 1 = g4 at m4 ⊢
 have hn_3_4 : g3 ≠ g4 := by omega
 have hn_4_3 : g4 ≠ g3 := hn_3_4.symm
 have hG4 : w.heap.size ≤ g4 := by omega
 clear hsz_
 try clear hg4
 try clear hg3
 have hs_W1 : w.heap.size ≤ W1.heap.size := mB.size
 go_wp2
 go_loopw [9, 15] (fun o i wr => ∃ (k : Nat) (v_ : Value) (E : S27) (out : List S27), v_ = o ∧ i = .int .i64 k ∧ k ≤ l.length ∧ Hid (enI v l e 0 [] = enI v (l.drop k) E k out) ∧ Hid (out.length = k ∧ 0 ≤ E.f0 ∧ E.f0 ≤ E.f1 ∧ E.f1 ≤ 1073741824) ∧ Blk wr g3 #[.int .i64 v.speed, .int .i64 v.dive, .int .i64 v.use.f0, .int .i64 v.use.f1, .int .i64 v.drift.f0, .int .i64 v.drift.f1, .int .i64 v.reserve] 29 ∧ Blk wr g4 #[.int .i64 E.f0, .int .i64 E.f1] 27 ∧ Kd.R k27 27 wr w.heap.size (fun q => q ≠ g4) v_ out ∧ Below w.heap.size w wr) (fun _ i _ => l.length - (intOf i).toNat)
 case atStart => exact ⟨0, _, e, [], rfl, rfl, Nat.zero_le _, Lib.hid rfl, Lib.hid ⟨rfl, by omega, by omega, by omega⟩, m3, m4, Kd.R_nil _ _ _ _ _, mB⟩
 case round =>
  clear m3 m4 mB he'
  obtain ⟨k, v_, E, out, rfl, rfl, hk, HR, HQ, m3, m4, HO, mB⟩ := hrel
  have hs_wr : w.heap.size ≤ wr.heap.size := mB.size
  by_cases hlt : k < l.length
  case neg =>
   obtain rfl : k = l.length := by omega
   have HE := HR.out
   rw [List.drop_length] at HE
   have HE2 : Hid (enI v l e 0 [] = (out, (l.length : Int), 0)) := Lib.hid HE
   clear HE HR HQ
   go_wp2
   go_ret3
   exact ⟨_, by rw [HE2.out]; rfl, by rw [HE2.out]; exact Kd.R_mono HO (fun _ _ => trivial), mB⟩
  case pos =>
   obtain ⟨ad_, e_, hx0, hx1⟩ := at_T33 hC k (by omega) (by omega)
   cases e_
   simp only [Int.toNat_natCast] at hx0 hx1
   replace hx0 := (mB.cell (World.block_lt_of_cell? w _ hx0)).trans hx0
   replace hx1 := (mB.cell (World.block_lt_of_cell? w _ hx1)).trans hx1
   have hdr : l.drop k = rd_T33 l (k : Int) :: l.drop (k + 1) := by rw [List.drop_eq_getElem_cons hlt]; simp [rd_T33, List.getD_eq_getElem?_getD, hlt]
   generalize rd_T33 l (k : Int) = d at *
   have hus := vehB_use HV.out d
   have HR2 : Hid (enI v l e 0 [] = if E.f0 - (takeI v d).f1 < v.reserve then ([], (k : Int), 19) else enI v (l.drop (k + 1)) ⟨E.f0 - (takeI v d).f1, E.f1 - (takeI v d).f0⟩ ((k : Int) + 1) (out ++ [⟨E.f0 - (takeI v d).f1, E.f1 - (takeI v d).f0⟩])) := Lib.hid (by rw [HR.out, hdr]; rfl)
   clear HR hdr
   have kT := fun W => takes_any v d W
   generalize takeI v d = x at *
   obtain ⟨hol, hE0, hE1, hE2⟩ := HQ.out
   clear HQ
   have hw0 : wrap64 (E.f0 - x.f1) = E.f0 - x.f1 := by unfold wrap64; omega
   have hw1 : wrap64 (E.f1 - x.f0) = E.f1 - x.f0 := by unfold wrap64; omega
   have HQ1 : Hid (out.length = k ∧ 0 ≤ E.f0 ∧ E.f0 ≤ E.f1 ∧ E.f1 ≤ 1073741824 ∧ 0 ≤ x.f0 ∧ x.f0 ≤ x.f1 ∧ x.f1 ≤ 1073741824 ∧ wrap64 (E.f0 - x.f1) = E.f0 - x.f1 ∧ wrap64 (E.f1 - x.f0) = E.f1 - x.f0) := Lib.hid ⟨hol, hE0, hE1, hE2, hus.1, hus.2.1, hus.2.2, hw0, hw1⟩
   clear hol hE0 hE1 hE2 hus hw0 hw1
   have c3_0 : ∀ o_, (wr.alloc o_).cell? ⟨g3, 0, none⟩ = some (.int .i64 v.speed) := fun o_ => (blk_cell (blk_alloc m3 o_) 0).trans rfl
   have c3_1 : ∀ o_, (wr.alloc o_).cell? ⟨g3, 1, none⟩ = some (.int .i64 v.dive) := fun o_ => (blk_cell (blk_alloc m3 o_) 1).trans rfl
   have c3_2 : ∀ o_, (wr.alloc o_).cell? ⟨g3, 2, none⟩ = some (.int .i64 v.use.f0) := fun o_ => (blk_cell (blk_alloc m3 o_) 2).trans rfl
   have c3_3 : ∀ o_, (wr.alloc o_).cell? ⟨g3, 3, none⟩ = some (.int .i64 v.use.f1) := fun o_ => (blk_cell (blk_alloc m3 o_) 3).trans rfl
   have c3_4 : ∀ o_, (wr.alloc o_).cell? ⟨g3, 4, none⟩ = some (.int .i64 v.drift.f0) := fun o_ => (blk_cell (blk_alloc m3 o_) 4).trans rfl
   have c3_5 : ∀ o_, (wr.alloc o_).cell? ⟨g3, 5, none⟩ = some (.int .i64 v.drift.f1) := fun o_ => (blk_cell (blk_alloc m3 o_) 5).trans rfl
   have c3_6 : ∀ o_, (wr.alloc o_).cell? ⟨g3, 6, none⟩ = some (.int .i64 v.reserve) := fun o_ => (blk_cell (blk_alloc m3 o_) 6).trans rfl
   go_wp2_with fail
   clear c3_0 c3_1 c3_2 c3_3 c3_4 c3_5 c3_6
   clear hx0 hx1
   replace HO := Kd.R_below HO (below_alloc (Below.refl wr.heap.size wr) (.cells #[.int .i64 d.f0, .int .i64 d.f1] 33))
   have hl_3 := blk_lt m3
   have hl_4 := blk_lt m4
   have m11 : Blk (wr.alloc (.cells #[.int .i64 d.f0, .int .i64 d.f1] 33)) (wr.heap.size) #[.int .i64 d.f0, .int .i64 d.f1] 33 := zq42
   replace m3 : Blk (wr.alloc (.cells #[.int .i64 d.f0, .int .i64 d.f1] 33)) g3 #[.int .i64 v.speed, .int .i64 v.dive, .int .i64 v.use.f0, .int .i64 v.use.f1, .int .i64 v.drift.f0, .int .i64 v.drift.f1, .int .i64 v.reserve] 29 := (blk_alloc m3 _)
   replace m4 : Blk (wr.alloc (.cells #[.int .i64 d.f0, .int .i64 d.f1] 33)) g4 #[.int .i64 E.f0, .int .i64 E.f1] 27 := (blk_alloc m4 _)
   replace mB : Below w.heap.size w (wr.alloc (.cells #[.int .i64 d.f0, .int .i64 d.f1] 33)) := (below_alloc mB _)
   have hsz_ : w.heap.size ≤ wr.heap.size := hs_wr
   generalize hW_ : (wr.alloc (.cells #[.int .i64 d.f0, .int .i64 d.f1] 33)) = W2 at m3 m4 m11 mB HO ⊢
   clear hW_
   generalize hg11 : wr.heap.size = g11 at m11 ⊢
   have hn_3_11 : g3 ≠ g11 := by omega
   have hn_4_11 : g4 ≠ g11 := by omega
   have hn_11_3 : g11 ≠ g3 := hn_3_11.symm
   have hn_11_4 : g11 ≠ g4 := hn_4_11.symm
   have hG11 : w.heap.size ≤ g11 := by omega
   clear hsz_ hl_3 hl_4
   try clear hg11
   have hs_W2 : w.heap.size ≤ W2.heap.size := mB.size
   have hcon := kT W2
   clear kT
   (with_reducible refine hcon.mono ?_)
   clear hcon
   rintro _ W3 ⟨rfl, hb⟩
   replace HO := Kd.R_below HO hb
   replace m3 := blk_below m3 hb
   replace m4 := blk_below m4 hb
   replace m11 := blk_below m11 hb
   replace mB := below_step mB hb
   clear hb
   have hs_W3 : w.heap.size ≤ W3.heap.size := mB.size
   go_wp2
   have hlt3 : some W3.heap.size ≠ v_.ownBlock := fun h => by have := Kd.R_lt HO _ h.symm; omega
   replace HO := Kd.R_below HO (below_alloc (Below.refl W3.heap.size W3) (.cells #[.int .i64 x.f0, .int .i64 x.f1] 27))
   have hl_3 := blk_lt m3
   have hl_4 := blk_lt m4
   have hl_11 := blk_lt m11
   have m12 : Blk (W3.alloc (.cells #[.int .i64 x.f0, .int .i64 x.f1] 27)) (W3.heap.size) #[.int .i64 x.f0, .int .i64 x.f1] 27 := (by have h_ := blk_new W3 (.cells #[.int .i64 x.f0, .int .i64 x.f1] 27); first | exact h_ | (simp only [World.size_alloc] at h_; exact h_))
   replace m3 : Blk (W3.alloc (.cells #[.int .i64 x.f0, .int .i64 x.f1] 27)) g3 #[.int .i64 v.speed, .int .i64 v.dive, .int .i64 v.use.f0, .int .i64 v.use.f1, .int .i64 v.drift.f0, .int .i64 v.drift.f1, .int .i64 v.reserve] 29 := (blk_alloc m3 _)
   replace m4 : Blk (W3.alloc (.cells #[.int .i64 x.f0, .int .i64 x.f1] 27)) g4 #[.int .i64 E.f0, .int .i64 E.f1] 27 := (blk_alloc m4 _)
   replace m11 : Blk (W3.alloc (.cells #[.int .i64 x.f0, .int .i64 x.f1] 27)) g11 #[.int .i64 d.f0, .int .i64 d.f1] 33 := (blk_alloc m11 _)
   replace mB : Below w.heap.size w (W3.alloc (.cells #[.int .i64 x.f0, .int .i64 x.f1] 27)) := (below_alloc mB _)
   have hsz_ : w.heap.size ≤ W3.heap.size := hs_W3
   generalize hW_ : (W3.alloc (.cells #[.int .i64 x.f0, .int .i64 x.f1] 27)) = W4 at m3 m4 m11 m12 mB HO ⊢
   clear hW_
   generalize hg12 : W3.heap.size = g12 at m12 hlt3 ⊢
   have hn_3_12 : g3 ≠ g12 := by omega
   have hn_4_12 : g4 ≠ g12 := by omega
   have hn_11_12 : g11 ≠ g12 := by omega
   have hn_12_3 : g12 ≠ g3 := hn_3_12.symm
   have hn_12_4 : g12 ≠ g4 := hn_4_12.symm
   have hn_12_11 : g12 ≠ g11 := hn_11_12.symm
   have hG12 : w.heap.size ≤ g12 := by omega
   clear hsz_ hl_3 hl_4 hl_11
   try clear hg12
   have hs_W4 : w.heap.size ≤ W4.heap.size := mB.size
   replace m3 := blk_drew m3
   replace m4 := blk_drew m4
   replace m11 := blk_drew m11
   replace m12 := blk_drew m12
   replace mB := below_drew1 mB
   replace HO := Kd.R_below HO (below_drew1 (Below.refl W4.heap.size W4))
   refine start_ (n := 14) (S := fun w' => w'.cell? ⟨g12, 0, none⟩ = some (.int .i64 x.f0) ∧ w'.cell? ⟨g12, 1, none⟩ = some (.int .i64 x.f1) ∧ w'.cell? ⟨g4, 1, none⟩ = some (.int .i64 E.f1)) (ds := [13]) #[false, false, false, false, false, false, false, false, false, false, false, false, false, false] zq1 rfl rfl ⟨((blk_cell m12 0).trans rfl), ((blk_cell m12 1).trans rfl), ((blk_cell m4 1).trans rfl)⟩ (fun hHeld => ?_)
   generalize hWd : World.drew _ = Wx at *
   clear hWd
   refine zpz (i := 0) (N := some 23) zq1 ?_
   refine zpz (i := 2) (N := some 25) zq1 ?_
   refine zpz (i := 5) (N := some 28) zq1 ?_
   refine zpz (i := 7) (N := some 30) zq1 ?_
   refine ztz (i := 3) (N := some 26) zq1 hHeld ?_
   refine ztz (i := 6) (N := some 29) zq1 hHeld ?_
   refine ztz (i := 8) (N := some 31) zq1 hHeld ?_
   refine zpz (i := 9) (N := some 32) zq1 ?_
   refine one_ (i := 1) (N := some 24) #[true, true, true, true, false, true, true, true, true, true, false, false, false, false] rfl rfl zq1 (by decide) (fun K hK => ?_)
   have hc0_ := (blk_cell m4 0).trans rfl
   refine value_ (w1 := ?_) (v := ?_) (by rfl) rfl ?_ ?_
   rotate_left 2
   ·go_simp
    constructor
    ·rfl
    ·rfl
   clear hc0_
   refine hK.out _ _ ⟨((blk_cell m12 0).trans rfl), ((blk_cell m12 1).trans rfl), ((blk_cell m4 1).trans rfl)⟩ (fun hHeld => ?_)
   clear hK K
   refine norm_ zq32 ?_
   refine zpz (i := 4) (N := some 27) zq1 ?_
   refine zpz (i := 10) (N := some 33) zq1 ?_
   refine one_ (i := 11) (N := none) #[true, true, true, true, true, true, true, true, true, true, true, true, false, false] rfl rfl zq1 (by decide) (fun K hK => ?_)
   have hf0_ := blk_frozen m4 0
   have hc0_ := (blk_cell m4 0).trans rfl
   refine skip_ (w1 := ?_) (by rfl) rfl ?_ ?_
   rotate_left
   ·go_simp
    rfl
   clear hf0_ hc0_
   refine hK.out _ _ ⟨((blk_cell (blk_far (p := ⟨g4, 0, none⟩) m12 hn_12_4 _) 0).trans rfl), ((blk_cell (blk_far (p := ⟨g4, 0, none⟩) m12 hn_12_4 _) 1).trans rfl), ((blk_cell (blk_put m4 0 (.int .i64 (wrap64 (E.f0 - x.f1))) rfl) 1).trans rfl)⟩ (fun hHeld => ?_)
   clear hK K
   refine zpz (i := 12) (N := some 34) zq1 ?_
   refine last_ (i := 13) (N := none) #[true, true, true, true, true, true, true, true, true, true, true, true, true, true] rfl rfl zq1 (by decide) (fun K hK => ?_)
   have hq_ := (blk_put m4 0 (.int .i64 (wrap64 (E.f0 - x.f1))) rfl)
   have hf1_ := blk_frozen hq_ 1
   have hc1_ := (blk_cell hq_ 1).trans rfl
   refine skip_ (w1 := ?_) (by rfl) rfl ?_ ?_
   rotate_left
   ·go_simp
    rfl
   clear hf1_ hc1_ hq_
   refine hK.out _ _ ?_
   clear hK K
   refine done_ zq1 ?_
   have n4 : Blk ((Wx.setCell ⟨g4, 0, none⟩ (.int .i64 (wrap64 (E.f0 - x.f1)))).setCell ⟨g4, 1, none⟩ (.int .i64 (wrap64 (E.f1 - x.f0)))) g4 #[.int .i64 (wrap64 (E.f0 - x.f1)), .int .i64 (wrap64 (E.f1 - x.f0))] 27 := (blk_put (blk_put m4 0 _ rfl) 1 _ rfl)
   have n3 : Blk ((Wx.setCell ⟨g4, 0, none⟩ (.int .i64 (wrap64 (E.f0 - x.f1)))).setCell ⟨g4, 1, none⟩ (.int .i64 (wrap64 (E.f1 - x.f0)))) g3 #[.int .i64 v.speed, .int .i64 v.dive, .int .i64 v.use.f0, .int .i64 v.use.f1, .int .i64 v.drift.f0, .int .i64 v.drift.f1, .int .i64 v.reserve] 29 := (blk_far (p := ⟨g4, 1, none⟩) (blk_far (p := ⟨g4, 0, none⟩) m3 hn_3_4 _) hn_3_4 _)
   have nB : Below w.heap.size w ((Wx.setCell ⟨g4, 0, none⟩ (.int .i64 (wrap64 (E.f0 - x.f1)))).setCell ⟨g4, 1, none⟩ (.int .i64 (wrap64 (E.f1 - x.f0)))) := (Below.setCell (p := ⟨g4, 1, none⟩) (Below.setCell (p := ⟨g4, 0, none⟩) mB hG4 _) hG4 _)
   have nO : Kd.R k27 27 ((Wx.setCell ⟨g4, 0, none⟩ (.int .i64 (wrap64 (E.f0 - x.f1)))).setCell ⟨g4, 1, none⟩ (.int .i64 (wrap64 (E.f1 - x.f0)))) w.heap.size (fun q => q ≠ g4) v_ out := (Kd.R_far (p := ⟨g4, 1, none⟩) (Kd.R_far (p := ⟨g4, 0, none⟩) HO (fun _ hk => hk) _) (fun _ hk => hk) _)
   clear m3 m4 m11 m12 mB HO
   try clear hHeld
   generalize hW_ : ((Wx.setCell ⟨g4, 0, none⟩ (.int .i64 (wrap64 (E.f0 - x.f1)))).setCell ⟨g4, 1, none⟩ (.int .i64 (wrap64 (E.f1 - x.f0)))) = W5 at n3 n4 nB nO ⊢
   clear hW_
   obtain ⟨hol, hE0, hE1, hE2, hx0, hx1, hx2, hw0, hw1⟩ := HQ1.out
   rw [hw0, hw1] at n4
   try rw [hw0, hw1]
   clear HQ1
   have hs_W5 : w.heap.size ≤ W5.heap.size := nB.size
   have m3 := n3
   have m4 := n4
   have mB := nB
   have HO := nO
   clear n3 n4 nB nO
   obtain ⟨c3_0, c3_1, c3_2, c3_3, c3_4, c3_5, c3_6⟩ := zcs7 m3
   obtain ⟨c4_0, c4_1⟩ := zcs2 m4
   by_cases hE : E.f0 - x.f1 < v.reserve
   case pos =>
    have HZ := Lib.hid (HR2.out.trans (if_pos hE))
    have hd1 : decide (E.f0 - x.f1 < v.reserve) = true := decide_eq_true hE
    clear hE HR2
    go_wp2
    go_ret3
    exact ⟨_, zq14, zq43, mB⟩
   case neg =>
    have HR3 := Lib.hid (HR2.out.trans (if_neg hE))
    have hd1 : decide (E.f0 - x.f1 < v.reserve) = false := decide_eq_false hE
    have HQ2 : Hid (out.length = k ∧ 0 ≤ E.f0 - x.f1 ∧ E.f0 - x.f1 ≤ E.f1 - x.f0 ∧ E.f1 - x.f0 ≤ 1073741824) := Lib.hid ⟨hol, by omega, by omega, by omega⟩
    clear HR2 hol hE0 hE1 hE2 hx0 hx1 hx2 hw0 hw1 hE
    have hal : Hid ((out.length + 1) * 16 ≤ 140737488355328) := Lib.hid (by have := HQ2.out.1; omega)
    have hne4 : some g4 ≠ v_.ownBlock := fun h => HO.1 g4 h.symm rfl
    have hne3 := Kd.R_ne HO m3 (by decide)
    go_wp2_with (first | ((with_reducible refine gate_builtin (b := .append) (xs := #[.tmp 41, .tmp 43]) rfl ?_); (try (refine gate_guard (by rfl) ?_; dsimp only)); at_builtin; go_loud (refine Kd.R_append k27 (w0 := w) w.heap.size rfl (.tmp 41) (.tmp 43) 66 27 (.agg #[.int .i64 0, .int .i64 0]) 16 rfl Try.underlying66 info27 rfl (by decide) (by decide) v_ out ⟨E.f0 - x.f1, E.f1 - x.f0⟩ [.int .i64 (E.f0 - x.f1), .int .i64 (E.f1 - x.f0)] (fun q => q ≠ g4) (fun _ => False) rfl (by first | rfl | (go_simp; done) | (go_simp; rfl)) ?aP (fun _ hk => hk.elim) ?aF ?aO ?aB ?aS ?aL ?_); (case aP => exact k27_mkM _ _ _ (⟨E.f0 - x.f1, E.f1 - x.f0⟩ : S27)); (case aF => exact (fun q hq => by have h_ := blk_lt m4; omega)); (case aO => exact HO); (case aB => exact mB); (case aS => exact mB.size); (case aL => exact hal.out); intro v1 w1 HO1 hB1 hgr hat))
    go_roundw
    case rel =>
     exact ⟨k + 1, v1, (⟨E.f0 - x.f1, E.f1 - x.f0⟩ : S27), out ++ [(⟨E.f0 - x.f1, E.f1 - x.f0⟩ : S27)], rfl, by simp, by omega, Lib.hid HR3.out, Lib.hid ⟨by rw [List.length_append]; have := HQ2.out.1; simp; omega, HQ2.out.2⟩, blk_grown m3 hgr hne3, blk_grown m4 hgr hne4, HO1, hB1⟩
    case measure => simp [intOf]; omega
end Go.Proofs.Ytmhaiihjfgfaoaa.Gl
end
section
/- The contracts of exported functions, as the printed texts ask for them. -/
namespace Go.Proofs.Ytmhaiihjfgfaoaa.Pr
open Go.RowKit Go.Proofs.YtmhaiihjfgfaoaaW.PrintWords Go.Proofs.YtmhaiihjfgfaoaaW.PrintLast Go.Proofs.YtmhaiihjfgfaoaaW.PrintMore Go.Proofs.Ytmhaiihjfgfaoaa.Gl
set_option linter.unusedVariables false
def glider_energy.f (a0_0 : Int) (a0_1 : Int) (a0_2 : Int) (a0_3 : Int) (a0_4 : Int) (a0_5 : Int) (a0_6 : Int) (a1_0 : Int) (a1_1 : Int) (l2 : List (S33)) : Option ((List (S27)) × Int × Int) := if (vehB ⟨a0_0, a0_1, ⟨a0_2, a0_3⟩, ⟨a0_4, a0_5⟩, a0_6⟩ && bndB a1_0 a1_1 0 1073741824 && decide (l2.length ≤ 64)) = true then some (enI ⟨a0_0, a0_1, ⟨a0_2, a0_3⟩, ⟨a0_4, a0_5⟩, a0_6⟩ l2 ⟨a1_0, a1_1⟩ 0 []) else none
theorem glider_energy.calls (a0_0 : Int) (a0_1 : Int) (a0_2 : Int) (a0_3 : Int) (a0_4 : Int) (a0_5 : Int) (a0_6 : Int) (a1_0 : Int) (a1_1 : Int) (A2 : Option Addr) (c2 : Nat) (l2 : List (S33)) (r1 : List (S27)) (r2 : Int) (r3 : Int) (w : World) (hr2 : Kd.C k33 w A2 l2.length l2) (hc2 : l2.length ≤ c2) (h : glider_energy.f a0_0 a0_1 a0_2 a0_3 a0_4 a0_5 a0_6 a1_0 a1_1 l2 = some (r1, r2, r3)) :
  Calls Try.prog 85 #[.agg #[.int .i64 a0_0, .int .i64 a0_1, .int .i64 a0_2, .int .i64 a0_3, .int .i64 a0_4, .int .i64 a0_5, .int .i64 a0_6], .agg #[.int .i64 a1_0, .int .i64 a1_1], .slice A2 l2.length c2] w fun e w' => ∃ v0_ : Value, e = .returned (.tuple #[v0_, .int .i64 r2, .int .i64 r3]) ∧ Kd.R k27 27 w' w.heap.size (fun _ => True) v0_ r1 ∧ Below w.heap.size w w' := by
 unfold glider_energy.f at h
 by_cases hg_ : (vehB ⟨a0_0, a0_1, ⟨a0_2, a0_3⟩, ⟨a0_4, a0_5⟩, a0_6⟩ && bndB a1_0 a1_1 0 1073741824 && decide (l2.length ≤ 64)) = true
 ·rw [if_pos hg_] at h
  have e_ := Option.some.inj h
  simp only [Bool.and_eq_true, decide_eq_true_eq] at hg_
  have q_ := energy_any ⟨a0_0, a0_1, ⟨a0_2, a0_3⟩, ⟨a0_4, a0_5⟩, a0_6⟩ ⟨a1_0, a1_1⟩ A2 c2 l2 w hg_.1.1 hg_.1.2 hr2 hc2 hg_.2
  rw [e_] at q_
  exact q_
 ·rw [if_neg hg_] at h
  cases h
end Go.Proofs.Ytmhaiihjfgfaoaa.Pr
end
