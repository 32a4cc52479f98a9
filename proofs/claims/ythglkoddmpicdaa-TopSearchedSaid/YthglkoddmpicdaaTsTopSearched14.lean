/- Part 14 of the proof of TopSearched: what the functions compute. No condition. -/
import Derived.Test.YthglkoddmpicdaaTsTopSearched3
import Derived.Test.YthglkoddmpicdaaTsTopSearched13
set_option linter.unusedVariables false
set_option linter.unusedSimpArgs false
section
/- Runs, as the program makes them. -/
namespace Go.Proofs.Ythglkoddmpicdaa.Gl
open Go.RowKit Go.Shelf Go.Proofs.YthglkoddmpicdaaW.PrintWords Go.Proofs.YthglkoddmpicdaaW.PrintLast Go.Proofs.YthglkoddmpicdaaW.PrintMore Go.Proofs.Ythglkoddmpicdaa.Pr Go.Proofs.YthglkoddmpicdaaW.Round
set_option linter.unusedVariables false
set_option linter.unusedSimpArgs false
attribute [local go_sem] max2_int min2_int max_two min_two max_four
theorem info29 : (Try.prog.info? 29).map (fun i => (i.zero, i.size, i.bytes)) = some (some (.agg #[(.int .i64 0), (.int .i64 0), (.int .i64 0), (.int .i64 0)]), 4, 32) := by kernel_rfl

/-- The boxes of a run, its dives and its error, from a box and a second on. -/
def ranI (s : Sea) (v : Veh) : List S76 → S29 → Int → Int → List S29 → List S29 × Int × Int
 | [], _, _, n, out => (out, n, 0)
 | c :: l, x, t, n, out => if diveE s v x t ≠ 0 then ([], n, diveE s v x t) else ranI s v l (diveV s v x t c.f0 c.f1) (t + v.dive) (n + 1) (out ++ [diveV s v x t c.f0 c.f1])
/-- What a run returns. -/
def RunPost (R : List S29 × Int × Int) (w : World) (e : Ending) (w' : World) : Prop := ∃ v0_ : Value, e = .returned (.tuple #[v0_, .int .i64 R.2.1, .int .i64 R.2.2]) ∧ Kd.R k29 29 w' w.heap.size (fun _ => True) v0_ R.1 ∧ Below w.heap.size w w'
theorem crsE_ok {l : List S76} {layers : Int} (h : crsE l layers = 0) : l.length ≤ 64 ∧ l.all (crsB layers) = true := by
 unfold crsE at h
 by_cases h1 : l.length > 64
 ·rw [if_pos h1] at h; cases h
 ·rw [if_neg h1] at h
  cases hb : l.all (crsB layers) with
  | false => rw [hb] at h; cases h
  | true => exact ⟨by omega, rfl⟩
theorem crsB_ok {layers : Int} {c : S76} (hl : 1 ≤ layers) (h : crsB layers c = true) : (0 ≤ c.f0 ∧ c.f0 ≤ 8) ∧ 0 ≤ c.f1 ∧ c.f1 < layers := by
 unfold crsB at h
 simp only [Bool.and_eq_true, Bool.or_eq_true, decide_eq_true_eq, btwB_iff] at h
 omega
set_option maxRecDepth 100000 in
set_option maxHeartbeats 8000000 in
theorem run_any (b : Nat) (s : Sea) (v : Veh) (x : S29) (t : Int) (A : Option Addr) (c : Nat) (l : List S76) (w : World) (hT : TripAt w b s v) (hS : SeaV s) (hV : VehN v) (hx : BoxOK x) (ht0 : 0 ≤ t) (ht1 : t ≤ 1073741824) (hC : Kd.C k76 w A l.length l) (hc : l.length ≤ c) (hl : l.length ≤ 64) (hall : l.all (crsB s.layers) = true) :
  Calls Try.prog 106 #[.pointer (some ⟨b, 0, none⟩), .agg #[.int .i64 x.f0.f0, .int .i64 x.f0.f1, .int .i64 x.f1.f0, .int .i64 x.f1.f1], .int .i64 t, .slice A l.length c] w (RunPost (ranI s v l x t 0 []) w) := by
 have hu29 := Try.underlying29
 have hu76 := Try.underlying76
 have hu27 := Try.underlying27
 have hu41 := Try.underlying41
 have hu25 := Try.underlying25
 have hu120 := Try.underlying120
 have HALL := Lib.hid hall
 clear hall
 go_enter Try.func106, Try.ntmps106
 go_wp2_with fail
 have m5 : Blk (w.alloc (.cells #[.int .i64 x.f0.f0, .int .i64 x.f0.f1, .int .i64 x.f1.f0, .int .i64 x.f1.f1] 29)) (w.heap.size) #[.int .i64 x.f0.f0, .int .i64 x.f0.f1, .int .i64 x.f1.f0, .int .i64 x.f1.f1] 29 := zq27
 have mB : Below w.heap.size w (w.alloc (.cells #[.int .i64 x.f0.f0, .int .i64 x.f0.f1, .int .i64 x.f1.f0, .int .i64 x.f1.f1] 29)) := (below_alloc (Below.refl w.heap.size w) _)
 have hsz_ : w.heap.size ≤ w.heap.size := Nat.le_refl _
 generalize hW_ : (w.alloc (.cells #[.int .i64 x.f0.f0, .int .i64 x.f0.f1, .int .i64 x.f1.f0, .int .i64 x.f1.f1] 29)) = W1 at m5 mB ⊢
 clear hW_
 generalize hg5 : w.heap.size = g5 at m5 ⊢
 have hG5 : w.heap.size ≤ g5 := by omega
 clear hsz_
 try clear hg5
 have hs_W1 : w.heap.size ≤ W1.heap.size := mB.size
 go_wp2
 go_loopw [2, 11, 18] (fun tt o i wr => ∃ (k : Nat) (v_ : Value) (X : S29) (T : Int) (out : List S29), tt = .int .i64 T ∧ v_ = o ∧ i = .int .i64 k ∧ k ≤ l.length ∧ Hid (ranI s v l x t 0 [] = ranI s v (l.drop k) X T k out) ∧ Hid (out.length = k ∧ BoxOK X ∧ 0 ≤ T ∧ T ≤ 1073741824 + (k : Int) * 131072) ∧ Blk wr g5 #[.int .i64 X.f0.f0, .int .i64 X.f0.f1, .int .i64 X.f1.f0, .int .i64 X.f1.f1] 29 ∧ Kd.R k29 29 wr w.heap.size (fun q => q ≠ g5) v_ out ∧ Below w.heap.size w wr) (fun _ _ i _ => l.length - (intOf i).toNat)
 case atStart => exact ⟨0, _, x, t, [], rfl, rfl, rfl, Nat.zero_le _, Lib.hid rfl, Lib.hid ⟨rfl, hx, ht0, by omega⟩, m5, Kd.R_nil _ _ _ _ _, mB⟩
 case round =>
  clear m5 mB hx ht0 ht1
  obtain ⟨k, v_, X, T, out, rfl, rfl, rfl, hk, HR, HQ, m5, HO, mB⟩ := hrel
  have hs_wr : w.heap.size ≤ wr.heap.size := mB.size
  by_cases hlt : k < l.length
  case neg =>
   obtain rfl : k = l.length := by omega
   have HE := HR.out
   rw [List.drop_length] at HE
   have HE2 : Hid (ranI s v l x t 0 [] = (out, (l.length : Int), 0)) := Lib.hid HE
   clear HE HR HQ
   go_wp2
   go_ret3
   exact ⟨_, by rw [HE2.out]; rfl, by rw [HE2.out]; exact Kd.R_mono HO (fun _ _ => trivial), mB⟩
  case pos =>
   obtain ⟨ad_, e_, hx0, hx1⟩ := at_T76 hC k (by omega) (by omega)
   cases e_
   simp only [Int.toNat_natCast] at hx0 hx1
   replace hx0 := (mB.cell (World.block_lt_of_cell? w _ hx0)).trans hx0
   replace hx1 := (mB.cell (World.block_lt_of_cell? w _ hx1)).trans hx1
   have hdr : l.drop k = rd_T76 l (k : Int) :: l.drop (k + 1) := by rw [List.drop_eq_getElem_cons hlt]; simp [rd_T76, List.getD_eq_getElem?_getD, hlt]
   have hmem : rd_T76 l (k : Int) ∈ l := List.mem_of_getElem? (i := k) (by simp [rd_T76, List.getD_eq_getElem?_getD, hlt])
   have hcr := crsB_ok hS.n.layers.1 (List.all_eq_true.1 HALL.out _ hmem)
   clear hmem
   generalize rd_T76 l (k : Int) = d at *
   have HR2 : Hid (ranI s v l x t 0 [] = if diveE s v X T ≠ 0 then ([], (k : Int), diveE s v X T) else ranI s v (l.drop (k + 1)) (diveV s v X T d.f0 d.f1) (T + v.dive) ((k : Int) + 1) (out ++ [diveV s v X T d.f0 d.f1])) := Lib.hid (by rw [HR.out, hdr]; rfl)
   clear HR hdr
   obtain ⟨hol, hX, hT0, hT1⟩ := HQ.out
   obtain ⟨⟨hh0, hh1⟩, hl0, hl1⟩ := hcr
   have hdb := fun h => dive_box (t := T) (hd := d.f0) (layer := d.f1) hS hV hX h
   have hdv := hV.dive
   have HDV := Lib.hid hdv
   clear HQ
   have kD := fun W (h : TripAt W b s v) => dive_any b s v X T d.f0 d.f1 W h hS hV hX hT0 (by omega) hh0 hh1 hl0 hl1
   have HQ1 : Hid (out.length = k ∧ 0 ≤ T ∧ T ≤ 1073741824 + (k : Int) * 131072 ∧ (diveE s v X T = 0 → BoxOK (diveV s v X T d.f0 d.f1))) := Lib.hid ⟨hol, hT0, hT1, hdb⟩
   clear hol hX hT0 hT1 hh0 hh1 hl0 hl1 hdb hdv
   generalize diveV s v X T d.f0 d.f1 = Y at *
   generalize diveE s v X T = E at *
   have c5_0 : ∀ o_, (wr.alloc o_).cell? ⟨g5, 0, none⟩ = some (.int .i64 X.f0.f0) := fun o_ => (blk_cell (blk_alloc m5 o_) 0).trans rfl
   have c5_1 : ∀ o_, (wr.alloc o_).cell? ⟨g5, 1, none⟩ = some (.int .i64 X.f0.f1) := fun o_ => (blk_cell (blk_alloc m5 o_) 1).trans rfl
   have c5_2 : ∀ o_, (wr.alloc o_).cell? ⟨g5, 2, none⟩ = some (.int .i64 X.f1.f0) := fun o_ => (blk_cell (blk_alloc m5 o_) 2).trans rfl
   have c5_3 : ∀ o_, (wr.alloc o_).cell? ⟨g5, 3, none⟩ = some (.int .i64 X.f1.f1) := fun o_ => (blk_cell (blk_alloc m5 o_) 3).trans rfl
   go_wp2_with fail
   clear c5_0 c5_1 c5_2 c5_3
   clear hx0 hx1
   replace HO := Kd.R_below HO (below_alloc (Below.refl wr.heap.size wr) (.cells #[.int .i64 d.f0, .int .i64 d.f1] 76))
   have hl_5 := blk_lt m5
   have m13 : Blk (wr.alloc (.cells #[.int .i64 d.f0, .int .i64 d.f1] 76)) (wr.heap.size) #[.int .i64 d.f0, .int .i64 d.f1] 76 := (by have h_ := blk_new wr (.cells #[.int .i64 d.f0, .int .i64 d.f1] 76); first | exact h_ | (simp only [World.size_alloc] at h_; exact h_))
   replace m5 : Blk (wr.alloc (.cells #[.int .i64 d.f0, .int .i64 d.f1] 76)) g5 #[.int .i64 X.f0.f0, .int .i64 X.f0.f1, .int .i64 X.f1.f0, .int .i64 X.f1.f1] 29 := (blk_alloc m5 _)
   replace mB : Below w.heap.size w (wr.alloc (.cells #[.int .i64 d.f0, .int .i64 d.f1] 76)) := (below_alloc mB _)
   have hsz_ : w.heap.size ≤ wr.heap.size := hs_wr
   generalize hW_ : (wr.alloc (.cells #[.int .i64 d.f0, .int .i64 d.f1] 76)) = W2 at m5 m13 mB HO ⊢
   clear hW_
   generalize hg13 : wr.heap.size = g13 at m13 ⊢
   have hn_5_13 : g5 ≠ g13 := by omega
   have hn_13_5 : g13 ≠ g5 := hn_5_13.symm
   have hG13 : w.heap.size ≤ g13 := by omega
   clear hsz_ hl_5
   try clear hg13
   have hs_W2 : w.heap.size ≤ W2.heap.size := mB.size
   have hcon := kD W2 (hT.below mB)
   clear kD
   (with_reducible refine hcon.mono ?_)
   clear hcon
   rintro e W3 ⟨rfl, hb⟩
   replace HO := Kd.R_below HO hb
   replace m5 := blk_below m5 hb
   replace m13 := blk_below m13 hb
   replace mB := below_step mB hb
   clear hb
   have hs_W3 : w.heap.size ≤ W3.heap.size := mB.size
   by_cases hE : E = 0
   case neg =>
    have HZ := Lib.hid (HR2.out.trans (if_pos hE))
    have hd1 : (E == 0) = false := beq_eq_false_iff_ne.2 hE
    have hd2 : (E != 0) = true := by rw [bne, hd1]; rfl
    clear hE HR2 HQ1
    go_wp2
    go_ret3
    exact ⟨_, zq21, zq38, by repeat (first | exact mB | apply below_alloc)⟩
   case pos =>
    have HR3 := Lib.hid (HR2.out.trans (if_neg (fun h => h hE)))
    have HQ2 : Hid (out.length = k ∧ 0 ≤ T ∧ T ≤ 1073741824 + (k : Int) * 131072 ∧ BoxOK Y) := Lib.hid ⟨HQ1.out.1, HQ1.out.2.1, HQ1.out.2.2.1, HQ1.out.2.2.2 hE⟩
    clear HR2 HQ1
    subst hE
    have hlt5 := blk_lt m5
    have hol : Hid ((out.length + 1) * 32 ≤ 140737488355328) := Lib.hid (by have := HQ2.out.1; omega)
    have hne5 : some g5 ≠ v_.ownBlock := fun h => HO.1 g5 h.symm rfl
    have hne14 : some W3.heap.size ≠ v_.ownBlock := fun h => by have := Kd.R_lt HO _ h.symm; omega
    go_wp2_with (first | ((with_reducible refine gate_builtin (b := .append) (xs := #[.tmp 35, .tmp 37]) rfl ?_); (try (refine gate_guard (by rfl) ?_; dsimp only)); at_builtin; go_loud (refine Kd.R_append k29 (w0 := w) w.heap.size rfl (.tmp 35) (.tmp 37) 45 29 (.agg #[.int .i64 0, .int .i64 0, .int .i64 0, .int .i64 0]) 32 rfl Try.underlying45 info29 rfl (by decide) (by decide) v_ out Y [.int .i64 Y.f0.f0, .int .i64 Y.f0.f1, .int .i64 Y.f1.f0, .int .i64 Y.f1.f1] (fun q => q ≠ g5) (fun _ => False) rfl (by first | rfl | (go_simp; done) | (go_simp; rfl)) ?aP (fun _ hk => hk.elim) ?aF ?aO ?aB ?aS ?aL ?_); (case aP => exact k29_mkM _ _ _ Y); (case aF => exact (fun q hq => by have h_ := blk_lt m5; simp only [World.size_alloc] at hq; omega)); (case aO => exact Kd.R_below HO (below_alloc (Below.refl _ _) _)); (case aB => exact below_alloc mB _); (case aS => (have h_ := mB.size; simp only [World.size_alloc]; omega)); (case aL => exact hol.out); intro v1 w1 HO1 hB1 hgr hat))
    replace m5 := blk_grown (blk_alloc m5 _) hgr hne5
    have m14 := blk_grown (blk_new W3 (.cells #[.int .i64 Y.f0.f0, .int .i64 Y.f0.f1, .int .i64 Y.f1.f0, .int .i64 Y.f1.f1] 29)) hgr hne14
    have hn_5_14 : g5 ≠ W3.heap.size := by have h_ := hlt5; omega
    clear hlt5
    clear hgr hat HO hne5 hne14 m13 mB hol
    generalize hg14 : W3.heap.size = g14 at m14 hn_5_14 ⊢
    have hn_14_5 := hn_5_14.symm
    clear hg14
    have mB := hB1
    clear hB1
    obtain ⟨A7, c7, A8, c8, mT, _⟩ := hT.below mB
    replace m5 := blk_drew m5
    replace m14 := blk_drew m14
    replace mT := blk_drew mT
    replace mB := below_drew1 mB
    replace HO1 := Kd.R_below HO1 (below_drew1 (Below.refl w1.heap.size w1))
    have hbn : b ≠ g5 := by have h_ := hT; obtain ⟨_, _, _, _, h_, _⟩ := h_; have h2_ := (Array.getElem?_eq_some_iff.1 h_).1; omega
    refine start_ (n := 10) (S := fun w' => w'.cell? ⟨g14, 0, none⟩ = some (.int .i64 Y.f0.f0) ∧ w'.cell? ⟨g14, 1, none⟩ = some (.int .i64 Y.f0.f1) ∧ w'.cell? ⟨g14, 2, none⟩ = some (.int .i64 Y.f1.f0) ∧ w'.cell? ⟨g14, 3, none⟩ = some (.int .i64 Y.f1.f1) ∧ w'.cell? ⟨b, 10, none⟩ = some (.int .i64 v.dive)) (ds := []) #[false, false, false, false, false, false, false, false, false, false] zq3 rfl rfl ⟨((blk_cell m14 0).trans rfl), ((blk_cell m14 1).trans rfl), ((blk_cell m14 2).trans rfl), ((blk_cell m14 3).trans rfl), ((blk_cell mT 10).trans rfl)⟩ (fun hHeld => ?_)
    generalize hWd : World.drew _ = Wx at *
    clear hWd
    refine zpz (i := 1) (N := some 40) zq3 ?_
    refine zpz (i := 2) (N := some 41) zq3 ?_
    refine zpz (i := 3) (N := some 42) zq3 ?_
    refine zpz (i := 4) (N := some 43) zq3 ?_
    refine zpz (i := 5) (N := some 44) zq3 ?_
    refine ztz (i := 0) (N := some 39) zq3 hHeld ?_
    refine ztz (i := 6) (N := some 45) zq3 hHeld ?_
    refine zpz (i := 7) (N := some 46) zq3 ?_
    refine one_ (i := 8) (N := none) #[true, true, true, true, true, true, true, true, true, false] rfl rfl zq3 (by decide) (fun K hK => ?_)
    have hf0_ := blk_frozen m5 0
    have hf1_ := blk_frozen m5 1
    have hf2_ := blk_frozen m5 2
    have hf3_ := blk_frozen m5 3
    have hc0_ := (blk_cell m5 0).trans rfl
    have hc1_ := (blk_cell m5 1).trans rfl
    have hc2_ := (blk_cell m5 2).trans rfl
    have hc3_ := (blk_cell m5 3).trans rfl
    refine skip_ (w1 := ?_) (by rfl) rfl ?_ ?_
    rotate_left
    ·go_simp
     rfl
    refine hK.out _ _ ⟨((blk_cell (blk_far (p := ⟨g5, 3, none⟩) (blk_far (p := ⟨g5, 2, none⟩) (blk_far (p := ⟨g5, 1, none⟩) (blk_far (p := ⟨g5, 0, none⟩) m14 hn_14_5 _) hn_14_5 _) hn_14_5 _) hn_14_5 _) 0).trans rfl), ((blk_cell (blk_far (p := ⟨g5, 3, none⟩) (blk_far (p := ⟨g5, 2, none⟩) (blk_far (p := ⟨g5, 1, none⟩) (blk_far (p := ⟨g5, 0, none⟩) m14 hn_14_5 _) hn_14_5 _) hn_14_5 _) hn_14_5 _) 1).trans rfl), ((blk_cell (blk_far (p := ⟨g5, 3, none⟩) (blk_far (p := ⟨g5, 2, none⟩) (blk_far (p := ⟨g5, 1, none⟩) (blk_far (p := ⟨g5, 0, none⟩) m14 hn_14_5 _) hn_14_5 _) hn_14_5 _) hn_14_5 _) 2).trans rfl), ((blk_cell (blk_far (p := ⟨g5, 3, none⟩) (blk_far (p := ⟨g5, 2, none⟩) (blk_far (p := ⟨g5, 1, none⟩) (blk_far (p := ⟨g5, 0, none⟩) m14 hn_14_5 _) hn_14_5 _) hn_14_5 _) hn_14_5 _) 3).trans rfl), ((blk_cell (blk_far (p := ⟨g5, 3, none⟩) (blk_far (p := ⟨g5, 2, none⟩) (blk_far (p := ⟨g5, 1, none⟩) (blk_far (p := ⟨g5, 0, none⟩) mT hbn _) hbn _) hbn _) hbn _) 10).trans rfl)⟩ (fun hHeld => ?_)
    clear hK K
    refine zpz (i := 9) (N := some 2) zq3 ?_
    refine done_ zq3 ?_
    go_wp2
    go_roundw
    case rel =>
     have hq := HQ2.out
     have hv := HDV.out
     have hwr : wrap64 (T + v.dive) = T + v.dive := by unfold wrap64; omega
     exact ⟨k + 1, v1, Y, T + v.dive, out ++ [Y], by rw [hwr], rfl, by simp, by omega, Lib.hid HR3.out, Lib.hid ⟨by rw [List.length_append]; simp; omega, hq.2.2.2, by omega, by omega⟩, (blk_put (blk_put (blk_put (blk_put m5 0 (.int .i64 Y.f0.f0) rfl) 1 (.int .i64 Y.f0.f1) rfl) 2 (.int .i64 Y.f1.f0) rfl) 3 (.int .i64 Y.f1.f1) rfl), (Kd.R_far (p := ⟨g5, 3, none⟩) (Kd.R_far (p := ⟨g5, 2, none⟩) (Kd.R_far (p := ⟨g5, 1, none⟩) (Kd.R_far (p := ⟨g5, 0, none⟩) HO1 (fun _ hk => hk) _) (fun _ hk => hk) _) (fun _ hk => hk) _) (fun _ hk => hk) _), (Below.setCell (p := ⟨g5, 3, none⟩) (Below.setCell (p := ⟨g5, 2, none⟩) (Below.setCell (p := ⟨g5, 1, none⟩) (Below.setCell (p := ⟨g5, 0, none⟩) mB hG5 _) hG5 _) hG5 _) hG5 _)⟩
    case measure => simp [intOf]; omega
/-- What Run returns. -/
def RunX (s : Sea) (v : Veh) (x : S29) (t : Int) (l : List S76) : List S29 × Int × Int := if beginE s v x t ≠ 0 then ([], 0, beginE s v x t) else if crsE l s.layers ≠ 0 then ([], 0, crsE l s.layers) else ranI s v l x t 0 []
set_option maxRecDepth 100000 in
set_option maxHeartbeats 8000000 in
theorem Run_any (s : Sea) (v : Veh) (x : S29) (t : Int) (A : Option Addr) (c : Nat) (l : List S76) (A7 A8 : Option Addr) (c7 c8 : Nat) (w : World) (h7 : s.shores.length ≤ c7) (hC7 : Kd.C Kd.bool w A7 s.shores.length s.shores) (h8 : s.currents.length ≤ c8) (hC8 : Kd.C k33 w A8 s.currents.length s.currents) (hC : Kd.C k76 w A l.length l) (hc : l.length ≤ c) :
  Calls Try.prog 43 #[.agg #[.int .i64 s.nx, .int .i64 s.ny, .int .i64 s.cell, .int .i64 s.slot, .int .i64 s.slots, .int .i64 s.layers, .int .i64 s.most, .slice A7 s.shores.length c7, .slice A8 s.currents.length c8], .agg #[.int .i64 v.speed, .int .i64 v.dive, .int .i64 v.use.f0, .int .i64 v.use.f1, .int .i64 v.drift.f0, .int .i64 v.drift.f1, .int .i64 v.reserve], .agg #[.int .i64 x.f0.f0, .int .i64 x.f0.f1, .int .i64 x.f1.f0, .int .i64 x.f1.f1], .int .i64 t, .slice A l.length c] w (RunPost (RunX s v x t l) w) := by
 have hu25 := Try.underlying25
 have hu41 := Try.underlying41
 have hu29 := Try.underlying29
 have hu76 := Try.underlying76
 have hu27 := Try.underlying27
 have HX : Hid (RunX s v x t l = if beginE s v x t ≠ 0 then ([], 0, beginE s v x t) else if crsE l s.layers ≠ 0 then ([], 0, crsE l s.layers) else ranI s v l x t 0 []) := Lib.hid rfl
 go_enter Try.func43, Try.ntmps43
 go_wp2_with fail
 have m5 : Blk (((w.alloc (.cells #[.int .i64 s.nx, .int .i64 s.ny, .int .i64 s.cell, .int .i64 s.slot, .int .i64 s.slots, .int .i64 s.layers, .int .i64 s.most, .slice A7 s.shores.length c7, .slice A8 s.currents.length c8] 25)).alloc (.cells #[.int .i64 v.speed, .int .i64 v.dive, .int .i64 v.use.f0, .int .i64 v.use.f1, .int .i64 v.drift.f0, .int .i64 v.drift.f1, .int .i64 v.reserve] 41)).alloc (.cells #[.int .i64 x.f0.f0, .int .i64 x.f0.f1, .int .i64 x.f1.f0, .int .i64 x.f1.f1] 29)) (w.heap.size) #[.int .i64 s.nx, .int .i64 s.ny, .int .i64 s.cell, .int .i64 s.slot, .int .i64 s.slots, .int .i64 s.layers, .int .i64 s.most, .slice A7 s.shores.length c7, .slice A8 s.currents.length c8] 25 := (blk_alloc (blk_alloc zq20 _) _)
 have m6 : Blk (((w.alloc (.cells #[.int .i64 s.nx, .int .i64 s.ny, .int .i64 s.cell, .int .i64 s.slot, .int .i64 s.slots, .int .i64 s.layers, .int .i64 s.most, .slice A7 s.shores.length c7, .slice A8 s.currents.length c8] 25)).alloc (.cells #[.int .i64 v.speed, .int .i64 v.dive, .int .i64 v.use.f0, .int .i64 v.use.f1, .int .i64 v.drift.f0, .int .i64 v.drift.f1, .int .i64 v.reserve] 41)).alloc (.cells #[.int .i64 x.f0.f0, .int .i64 x.f0.f1, .int .i64 x.f1.f0, .int .i64 x.f1.f1] 29)) (w.heap.size + 1) #[.int .i64 v.speed, .int .i64 v.dive, .int .i64 v.use.f0, .int .i64 v.use.f1, .int .i64 v.drift.f0, .int .i64 v.drift.f1, .int .i64 v.reserve] 41 := (blk_alloc zq35 _)
 have m7 : Blk (((w.alloc (.cells #[.int .i64 s.nx, .int .i64 s.ny, .int .i64 s.cell, .int .i64 s.slot, .int .i64 s.slots, .int .i64 s.layers, .int .i64 s.most, .slice A7 s.shores.length c7, .slice A8 s.currents.length c8] 25)).alloc (.cells #[.int .i64 v.speed, .int .i64 v.dive, .int .i64 v.use.f0, .int .i64 v.use.f1, .int .i64 v.drift.f0, .int .i64 v.drift.f1, .int .i64 v.reserve] 41)).alloc (.cells #[.int .i64 x.f0.f0, .int .i64 x.f0.f1, .int .i64 x.f1.f0, .int .i64 x.f1.f1] 29)) (w.heap.size + 1 + 1) #[.int .i64 x.f0.f0, .int .i64 x.f0.f1, .int .i64 x.f1.f0, .int .i64 x.f1.f1] 29 := zq36
 have mB : Below w.heap.size w (((w.alloc (.cells #[.int .i64 s.nx, .int .i64 s.ny, .int .i64 s.cell, .int .i64 s.slot, .int .i64 s.slots, .int .i64 s.layers, .int .i64 s.most, .slice A7 s.shores.length c7, .slice A8 s.currents.length c8] 25)).alloc (.cells #[.int .i64 v.speed, .int .i64 v.dive, .int .i64 v.use.f0, .int .i64 v.use.f1, .int .i64 v.drift.f0, .int .i64 v.drift.f1, .int .i64 v.reserve] 41)).alloc (.cells #[.int .i64 x.f0.f0, .int .i64 x.f0.f1, .int .i64 x.f1.f0, .int .i64 x.f1.f1] 29)) := (below_alloc (below_alloc (below_alloc (Below.refl w.heap.size w) _) _) _)
 have hsz_ : w.heap.size ≤ w.heap.size := Nat.le_refl _
 generalize hW_ : (((w.alloc (.cells #[.int .i64 s.nx, .int .i64 s.ny, .int .i64 s.cell, .int .i64 s.slot, .int .i64 s.slots, .int .i64 s.layers, .int .i64 s.most, .slice A7 s.shores.length c7, .slice A8 s.currents.length c8] 25)).alloc (.cells #[.int .i64 v.speed, .int .i64 v.dive, .int .i64 v.use.f0, .int .i64 v.use.f1, .int .i64 v.drift.f0, .int .i64 v.drift.f1, .int .i64 v.reserve] 41)).alloc (.cells #[.int .i64 x.f0.f0, .int .i64 x.f0.f1, .int .i64 x.f1.f0, .int .i64 x.f1.f1] 29)) = W1 at m5 m6 m7 mB ⊢
 clear hW_
 generalize hg5 : w.heap.size = g5 at m5 m6 m7 ⊢
 have hG5 : w.heap.size ≤ g5 := by omega
 generalize hg6 : g5 + 1 = g6 at m6 m7 ⊢
 have hn_5_6 : g5 ≠ g6 := by omega
 have hn_6_5 : g6 ≠ g5 := hn_5_6.symm
 have hG6 : w.heap.size ≤ g6 := by omega
 generalize hg7 : g6 + 1 = g7 at m7 ⊢
 have hn_5_7 : g5 ≠ g7 := by omega
 have hn_6_7 : g6 ≠ g7 := by omega
 have hn_7_5 : g7 ≠ g5 := hn_5_7.symm
 have hn_7_6 : g7 ≠ g6 := hn_6_7.symm
 have hG7 : w.heap.size ≤ g7 := by omega
 clear hsz_
 try clear hg7
 try clear hg6
 try clear hg5
 have hs_W1 : w.heap.size ≤ W1.heap.size := mB.size
 have hbg : beginE s v x t = if tripE s v ≠ 0 then tripE s v else placeE x t := rfl
 have HBG := Lib.hid hbg
 clear hbg
 obtain ⟨c5_0, c5_1, c5_2, c5_3, c5_4, c5_5, c5_6, c5_7, c5_8⟩ := zcs9 m5
 obtain ⟨c6_0, c6_1, c6_2, c6_3, c6_4, c6_5, c6_6⟩ := zcs7 m6
 obtain ⟨c7_0, c7_1, c7_2, c7_3⟩ := zcs4 m7
 go_wp2_with fail
 clear c5_0 c5_1 c5_2 c5_3 c5_4 c5_5 c5_6 c5_7 c5_8 c6_0 c6_1 c6_2 c6_3 c6_4 c6_5 c6_6 c7_0 c7_1 c7_2 c7_3
 have hcon := begin_any s v x t A7 A8 c7 c8 W1 h7 (Kd.C_below hC7 mB) h8 (Kd.C_below hC8 mB)
 (with_reducible refine hcon.mono ?_)
 clear hcon
 rintro e W2 ⟨ptr, rfl, hb, hpt⟩
 replace m5 := blk_below m5 hb
 replace m6 := blk_below m6 hb
 replace m7 := blk_below m7 hb
 replace mB := below_step mB hb
 clear hb
 have hs_W2 : w.heap.size ≤ W2.heap.size := mB.size
 generalize hE_ : beginE s v x t = E0 at *
 have HE0 := Lib.hid hE_
 clear hE_
 by_cases h0 : E0 = 0
 case neg =>
  have HZ := Lib.hid (HX.out.trans (if_pos h0))
  have hd1 : (E0 == 0) = false := beq_eq_false_iff_ne.2 h0
  have hd2 : (E0 != 0) = true := by rw [bne, hd1]; rfl
  clear h0 hpt HX
  go_wp2
  go_ret3
  exact ⟨_, zq21, zq38, mB⟩
 case pos =>
  have HX2 := Lib.hid (HX.out.trans (if_neg (fun h => h h0)))
  clear HX
  have hb0 := HBG.out.symm.trans h0
  obtain ⟨ht0, hp0⟩ := ite_ne_zero hb0
  obtain ⟨hbx, htt0, htt1⟩ := place_ok hp0
  obtain ⟨hSV, hVN⟩ := tripE_ok ht0
  rcases hpt with ⟨_, g, rfl, hg, hT⟩ | ⟨hbad, _⟩
  case inr => exact absurd ht0 hbad
  case inl =>
   subst h0
   clear hb0 ht0 hp0 HBG
   obtain ⟨c5_0, c5_1, c5_2, c5_3, c5_4, c5_5, c5_6, c5_7, c5_8⟩ := zcs9 m5
   go_wp2_with fail
   clear c5_0 c5_1 c5_2 c5_3 c5_4 c5_5 c5_6 c5_7 c5_8
   have hcon := crs_any A c l s.layers W2 (Kd.C_below hC mB) hc
   (with_reducible refine hcon.mono ?_)
   clear hcon
   rintro e W4 ⟨rfl, hb⟩
   replace hT := hT.below hb
   replace m5 := blk_below m5 hb
   replace m6 := blk_below m6 hb
   replace m7 := blk_below m7 hb
   replace mB := below_step mB hb
   clear hb
   have hs_W4 : w.heap.size ≤ W4.heap.size := mB.size
   have hc1 := fun h => crsE_ok (l := l) (layers := s.layers) h
   generalize crsE l s.layers = E1 at *
   by_cases h1 : E1 = 0
   case neg =>
    have HZ := Lib.hid (HX2.out.trans (if_pos h1))
    have hd1 : (E1 == 0) = false := beq_eq_false_iff_ne.2 h1
    have hd2 : (E1 != 0) = true := by rw [bne, hd1]; rfl
    clear h1 hc1 HX2
    go_wp2
    go_ret3
    exact ⟨_, zq21, zq38, mB⟩
   case pos =>
    obtain ⟨hl64, hall⟩ := hc1 h1
    have HX3 := Lib.hid (HX2.out.trans (if_neg (fun h => h h1)))
    clear HX2 hc1
    subst h1
    obtain ⟨c7_0, c7_1, c7_2, c7_3⟩ := zcs4 m7
    go_wp2_with fail
    clear c7_0 c7_1 c7_2 c7_3
    have hcon := run_any g s v x t A c l W4 hT hSV hVN hbx htt0 htt1 (Kd.C_below hC mB) hc hl64 hall
    (with_reducible refine hcon.mono ?_)
    clear hcon
    rintro e W5 ⟨v0_, rfl, HR, hb⟩
    generalize ranI s v l x t 0 [] = R at *
    go_wp2
    go_ret3
    exact ⟨_, by rw [HX3.out]; rfl, by rw [HX3.out]; exact Kd.R_lower HR mB.size, below_step mB hb⟩
end Go.Proofs.Ythglkoddmpicdaa.Gl
end
