/- Part 19 of the proof of GliderSwarm: what the functions compute. No condition. -/
import Derived.Test.YtmhaiihjfgfaoaaGsGliderSwarm3
import Derived.Test.YtmhaiihjfgfaoaaGsGliderSwarm18
import Derived.Test.YtmhaiihjfgfaoaaGsGliderSwarm5
set_option linter.unusedSimpArgs false
set_option linter.unusedVariables false
section
/- One more run among runs. -/
namespace Go.Proofs.Ytmhaiihjfgfaoaa.Pr
open Go.RowKit Go.Shelf Go.Proofs.YtmhaiihjfgfaoaaW.PrintWords Go.Proofs.YtmhaiihjfgfaoaaW.PrintLast Go.Proofs.YtmhaiihjfgfaoaaW.PrintMore Go.Proofs.Ytmhaiihjfgfaoaa.Gl Go.Proofs.YtmhaiihjfgfaoaaW.Round
set_option linter.unusedVariables false
set_option linter.unusedSimpArgs false
attribute [local go_sem] max2_int min2_int max_two min_two max_four
/-- What is visited with one more run. -/
def swarm_more.f (k : Nat) (a0_0 : Int) (a0_1 : Int) (a0_2 : Int) (a0_3 : Int) (a0_4 : Int) (a0_5 : Int) (a0_6 : Int) (l0_7 : List Bool) (l0_8 : List (S40)) (l1 : List (List (S31))) (l2 : List (S31)) : Option (List Int × Int) := if l1.length < 4398046511104 then glider_Visited.f k a0_0 a0_1 a0_2 a0_3 a0_4 a0_5 a0_6 l0_7 l0_8 (l1 ++ [l2]) else none
/-- Rows of rows whose inner rows were there before. -/
def outK (w : World) : Kd (List S31) where
 sz := 1
 E := []
 K := fun _ xs cs => ∃ A c, cs = [.slice A xs.length c] ∧ xs.length ≤ c ∧ Kd.C k31 w A xs.length xs
 M := fun _ _ _ xs cs => ∃ A c, cs = [.slice A xs.length c] ∧ xs.length ≤ c ∧ Kd.C k31 w A xs.length xs
 K_len := by
  rintro _ x cs ⟨A, c, rfl, _⟩
  rfl
 K_one := by
  rintro _ x cs ⟨A, c, rfl, _⟩ u hu
  rw [List.mem_singleton.1 hu]
  rfl
 K_below := fun _ h => h
 K_of_M := fun h => h
 M_mono := fun _ h => h
 M_bound := fun h => h
 M_move := fun _ h => h
 M_lower := fun _ h => h
theorem outK_one (w W : World) (g : Nat) (A : Option Addr) (c : Nat) (x : List S31) (hb : Blk W g #[.slice A x.length c] 50) (hc : x.length ≤ c) (hC : Kd.C k31 w A x.length x) : ReadsRow ((outK w).K W) (outK w).sz W (some ⟨g, 0, none⟩) 1 [x] :=
 ⟨rfl, by decide, fun _ => ⟨_, rfl, fun j p hj => by
  rcases j with _ | j
  ·simp only [List.getElem?_cons_zero, Option.some.injEq] at hj
   subst hj
   refine ⟨[.slice A x.length c], rfl, ⟨A, c, rfl, hc, hC⟩, fun i u hu => ?_⟩
   rcases i with _ | i
   ·simp only [List.getElem?_cons_zero, Option.some.injEq] at hu
    subst hu
    exact (blk_cell hb 0).trans rfl
   ·simp at hu
  ·simp at hj⟩⟩
theorem outK_slice {w W : World} {A : Option Addr} {n : Nat} {ls : List (List S31)} (hb : Below w.heap.size w W) (h : (outK w).C W A n ls) : Kd.C (Kd.slice 31 k31) W A n ls :=
 ReadsRow.imp_ h (Below.refl _ _) (fun p c hp => by
  obtain ⟨A, c, e, hl, hC⟩ := hp
  exact ⟨A, c, e, hl, Kd.C_below hC hb⟩)
set_option maxRecDepth 100000 in
set_option maxHeartbeats 8000000 in
theorem swarm9 {Q : Act → World → Prop} (y0 y4 y5 y6 y7 y8 y9 y10 y11 y12 y13 y14 y15 y16 y17 y18 y19 y20 y21 y22 y23 y24 y25 y26 y27 y28 y29 y30 y31 y32 y33 y34 y35 y36 y37 y38 y39 y40 y41 y42 y43 y44 y45 y46 y47 y48 y49 y50 y51 y52 y53 y54 y55 y56 y57 y58 y59 y60 y61 y62 y63 y64 y65 y66 y67 y68 y69 y70 y71 y72 y73 y74 y75 y76 y77 y78 y79 y80 y81 y82 y83 y84 y85 y86 y87 y88 y89 y90 y91 y92 y93 y94 y95 y96 y97 y98 y99 y100 y101 y102 y103 y104 y105 y106 y107 y108 y109 y110 y111 y112 y113 y114 y115 y116 y117 y118 y119 y120 y121 y122 y123 y124 y125 y126 y127 y128 y129 y130 y131 : Value) (ds : List Deferred) (k : Nat) (a0_0 a0_1 a0_2 a0_3 a0_4 a0_5 a0_6 : Int) (A0_7 : Option Addr) (c0_7 : Nat) (l0_7 : List Bool) (A0_8 : Option Addr) (c0_8 : Nat) (l0_8 : List (S40)) (A1 : Option Addr) (c1 : Nat) (l1 : List (List (S31))) (A2 : Option Addr) (c2 : Nat) (l2 : List (S31)) (r1 : List Int) (r2 : Int) (g3 : Nat) (w : World)
  (hr0_7 : Kd.C Kd.bool w A0_7 l0_7.length l0_7) (hc0_7 : l0_7.length ≤ c0_7) (hr0_8 : Kd.C k40 w A0_8 l0_8.length l0_8) (hc0_8 : l0_8.length ≤ c0_8) (hr1 : Kd.C (Kd.slice 31 k31) w A1 l1.length l1) (hr2 : Kd.C k31 w A2 l2.length l2) (hc2 : l2.length ≤ c2)
  (m3 : Blk w g3 #[.int .i64 a0_0, .int .i64 a0_1, .int .i64 a0_2, .int .i64 a0_3, .int .i64 a0_4, .int .i64 a0_5, .int .i64 a0_6, .slice A0_7 l0_7.length c0_7, .slice A0_8 l0_8.length c0_8] 25) (h : swarm_more.f k a0_0 a0_1 a0_2 a0_3 a0_4 a0_5 a0_6 l0_7 l0_8 l1 l2 = some (r1, r2))
  (hKK : ∀ (v0_ z54 z55 z56 z57 z58 z59 z60 z61 : Value) (w' : World), Kd.R (Kd.int .i64) 75 w' w.heap.size (fun _ => True) v0_ r1 → Below w.heap.size w w' → Q { tmps := #[y0, .slice A1 l1.length c1, .slice A2 l2.length c2, .pointer (some ⟨g3, 0, none⟩), y4, y5, y6, y7, y8, y9, v0_, .int .i64 r2, y12, y13, y14, y15, y16, y17, y18, y19, y20, y21, y22, y23, y24, y25, y26, y27, y28, y29, y30, y31, y32, y33, y34, y35, y36, y37, y38, y39, y40, y41, y42, y43, y44, y45, y46, y47, y48, y49, y50, y51, y52, .tuple #[v0_, .int .i64 r2], z54, z55, z56, z57, z58, z59, z60, z61, v0_, .int .i64 r2, y64, y65, y66, y67, y68, y69, y70, y71, y72, y73, y74, y75, y76, y77, y78, y79, y80, y81, y82, y83, y84, y85, y86, y87, y88, y89, y90, y91, y92, y93, y94, y95, y96, y97, y98, y99, y100, y101, y102, y103, y104, y105, y106, y107, y108, y109, y110, y111, y112, y113, y114, y115, y116, y117, y118, y119, y120, y121, y122, y123, y124, y125, y126, y127, y128, y129, y130, y131], defers := ds } w') :
  Code.wp Try.prog (Code.region 9 #[{ dst := some 54, op := Op.load 25 (Operand.tmp 3), type := 25, pos := "outright.go:247", after := #[], guard := none }, { dst := some 55, op := Op.buildSlice 71 0 #[], type := 71, pos := "outright.go:247", after := #[], guard := none }, { dst := some 56, op := Op.move (Operand.tmp 1), type := 71, pos := "outright.go:247", after := #[], guard := none }, { dst := some 57, op := Op.call { callee := Callee.builtin Builtin.append, args := #[Operand.tmp 55, Operand.tmp 56], argTypes := #[71, 71] }, type := 71, pos := "outright.go:247", after := #[{ on := 1, ground := Ground.data }, { on := 2, ground := Ground.data }], guard := none }, { dst := some 58, op := Op.move (Operand.tmp 2), type := 50, pos := "outright.go:247", after := #[], guard := none }, { dst := some 59, op := Op.buildSlice 71 1 #[(0, Operand.tmp 58)], type := 71, pos := "outright.go:247", after := #[{ on := 4, ground := Ground.data }], guard := none }, { dst := some 60, op := Op.call { callee := Callee.builtin Builtin.append, args := #[Operand.tmp 57, Operand.tmp 59], argTypes := #[71, 71] }, type := 71, pos := "outright.go:247", after := #[{ on := 3, ground := Ground.data }, { on := 5, ground := Ground.data }, { on := 3, ground := Ground.chain }], guard := none }, { dst := some 61, op := Op.call { callee := Callee.value (Operand.func 40), args := #[Operand.tmp 54, Operand.tmp 60], argTypes := #[25, 71] }, type := 73, pos := "outright.go:247", after := #[{ on := 0, ground := Ground.data }, { on := 6, ground := Ground.data }, { on := 6, ground := Ground.chain }], guard := none }, { dst := some 53, op := Op.move (Operand.tmp 61), type := 73, pos := "outright.go:247", after := #[{ on := 7, ground := Ground.data }], guard := none }, { dst := some 62, op := Op.extract (Operand.tmp 53) 0, type := 72, pos := "outright.go:247", after := #[{ on := 8, ground := Ground.data }], guard := none }, { dst := some 63, op := Op.extract (Operand.tmp 53) 1, type := 36, pos := "outright.go:247", after := #[{ on := 8, ground := Ground.data }, { on := 11, ground := Ground.gcOnly Departure.lateStores }], guard := none }, { dst := some 10, op := Op.assign (Operand.tmp 62), type := 72, pos := "outright.go:247", after := #[{ on := 9, ground := Ground.data }, { on := 7, ground := Ground.chain }, { on := 0, ground := Ground.phase }, { on := 1, ground := Ground.phase }, { on := 2, ground := Ground.phase }, { on := 3, ground := Ground.phase }, { on := 4, ground := Ground.phase }, { on := 5, ground := Ground.phase }, { on := 6, ground := Ground.phase }, { on := 7, ground := Ground.phase }, { on := 8, ground := Ground.phase }, { on := 9, ground := Ground.phase }, { on := 10, ground := Ground.textOnly Departure.lateStores }], guard := none }, { dst := some 11, op := Op.assign (Operand.tmp 63), type := 36, pos := "outright.go:247", after := #[{ on := 10, ground := Ground.data }, { on := 11, ground := Ground.chain }, { on := 0, ground := Ground.phase }, { on := 1, ground := Ground.phase }, { on := 2, ground := Ground.phase }, { on := 3, ground := Ground.phase }, { on := 4, ground := Ground.phase }, { on := 5, ground := Ground.phase }, { on := 6, ground := Ground.phase }, { on := 7, ground := Ground.phase }, { on := 8, ground := Ground.phase }, { on := 9, ground := Ground.phase }, { on := 10, ground := Ground.phase }, { on := 11, ground := Ground.phase }], guard := none }] true) (onlyN Q) { tmps := #[y0, .slice A1 l1.length c1, .slice A2 l2.length c2, .pointer (some ⟨g3, 0, none⟩), y4, y5, y6, y7, y8, y9, y10, y11, y12, y13, y14, y15, y16, y17, y18, y19, y20, y21, y22, y23, y24, y25, y26, y27, y28, y29, y30, y31, y32, y33, y34, y35, y36, y37, y38, y39, y40, y41, y42, y43, y44, y45, y46, y47, y48, y49, y50, y51, y52, y53, y54, y55, y56, y57, y58, y59, y60, y61, y62, y63, y64, y65, y66, y67, y68, y69, y70, y71, y72, y73, y74, y75, y76, y77, y78, y79, y80, y81, y82, y83, y84, y85, y86, y87, y88, y89, y90, y91, y92, y93, y94, y95, y96, y97, y98, y99, y100, y101, y102, y103, y104, y105, y106, y107, y108, y109, y110, y111, y112, y113, y114, y115, y116, y117, y118, y119, y120, y121, y122, y123, y124, y125, y126, y127, y128, y129, y130, y131], defers := ds } w := by
 unfold swarm_more.f at h
 by_cases hlim : l1.length < 4398046511104
 case neg => rw [if_neg hlim] at h; cases h
 rw [if_pos hlim] at h
 have hu25 := Try.underlying25
 have mB : Below w.heap.size w w := Below.refl _ _
 have hL := hr1
 have HQ := Lib.hid hKK
 clear hKK
 have HH := Lib.hid h
 clear h
 replace m3 := blk_drew m3
 replace mB := below_drew1 mB
 refine start_ (n := 13) (S := fun w' => w'.cell? ⟨g3, 0, none⟩ = some (.int .i64 a0_0) ∧ w'.cell? ⟨g3, 1, none⟩ = some (.int .i64 a0_1) ∧ w'.cell? ⟨g3, 2, none⟩ = some (.int .i64 a0_2) ∧ w'.cell? ⟨g3, 3, none⟩ = some (.int .i64 a0_3) ∧ w'.cell? ⟨g3, 4, none⟩ = some (.int .i64 a0_4) ∧ w'.cell? ⟨g3, 5, none⟩ = some (.int .i64 a0_5) ∧ w'.cell? ⟨g3, 6, none⟩ = some (.int .i64 a0_6) ∧ w'.cell? ⟨g3, 7, none⟩ = some (.slice A0_7 l0_7.length c0_7) ∧ w'.cell? ⟨g3, 8, none⟩ = some (.slice A0_8 l0_8.length c0_8)) (ds := []) #[false, false, false, false, false, false, false, false, false, false, false, false, false] zq1 rfl rfl ⟨((blk_cell m3 0).trans rfl), ((blk_cell m3 1).trans rfl), ((blk_cell m3 2).trans rfl), ((blk_cell m3 3).trans rfl), ((blk_cell m3 4).trans rfl), ((blk_cell m3 5).trans rfl), ((blk_cell m3 6).trans rfl), ((blk_cell m3 7).trans rfl), ((blk_cell m3 8).trans rfl)⟩ (fun hHeld => ?_)
 generalize hWd : World.drew _ = Wx at m3 mB hHeld ⊢
 clear hWd
 refine zpz (i := 2) (N := some 56) zq1 ?_
 refine zpz (i := 4) (N := some 58) zq1 ?_
 refine ztz (i := 0) (N := some 54) zq1 hHeld ?_
 refine join_ (σ := Value × Value × Nat) 7 #[true, true, true, true, true, true, false, false, false, false, false, false, false] (fun s => [(55, s.1), (57, s.2.1), (59, .slice (some ⟨s.2.2, 0, none⟩) 1 1)]) (fun s w' => Blk w' g3 #[.int .i64 a0_0, .int .i64 a0_1, .int .i64 a0_2, .int .i64 a0_3, .int .i64 a0_4, .int .i64 a0_5, .int .i64 a0_6, .slice A0_7 l0_7.length c0_7, .slice A0_8 l0_8.length c0_8] 25 ∧ Blk w' s.2.2 #[.slice A2 l2.length c2] 50 ∧ Kd.R (outK w) 50 w' w.heap.size (fun _ => True) s.2.1 l1 ∧ Below w.heap.size w w') ?_ ?_
 rotate_left
 ·intro hCont
  refine two_ (i := 1) (j := 5) (Ni := some 55) (Nj := some 59) #[true, true, true, false, true, false, false, false, false, false, false, false, false] #[true, false, true, false, true, true, false, false, false, false, false, false, false] rfl rfl rfl rfl zq1 (by decide) (by decide) (fun K hK => ?_) (fun K hK => ?_)
  ·skip
   refine value_ (w1 := ?_) (v := ?_) (by rfl) rfl ?_ ?_
   rotate_left 2
   ·go_simp
    constructor
    ·rfl
    ·rfl
   have HO : Kd.R (outK w) 50 (Wx.alloc (.cells #[] 50)) w.heap.size (fun _ => True) (Value.slice (some ⟨Wx.heap.size, 0, none⟩) 0 0) [] := ⟨fun _ _ => trivial, [], (by have h_ := World.ownsRow_made (e := 50) (size := 1) Wx #[] 0 mB.size (by decide) rfl; first | exact h_ | (simp only [World.size_alloc] at h_; exact h_)), Reps.none _ _⟩
   replace m3 := blk_alloc m3 (.cells #[] 50)
   replace mB := below_alloc mB (.cells #[] 50)
   refine hK.out _ _ ⟨((blk_cell m3 0).trans rfl), ((blk_cell m3 1).trans rfl), ((blk_cell m3 2).trans rfl), ((blk_cell m3 3).trans rfl), ((blk_cell m3 4).trans rfl), ((blk_cell m3 5).trans rfl), ((blk_cell m3 6).trans rfl), ((blk_cell m3 7).trans rfl), ((blk_cell m3 8).trans rfl)⟩ (fun hHeld => ?_)
   clear hK K
   refine norm_ zq49 ?_
   refine two_ (i := 3) (j := 5) (Ni := some 57) (Nj := some 59) #[true, true, true, true, true, false, false, false, false, false, false, false, false] #[true, true, true, false, true, true, false, false, false, false, false, false, false] rfl rfl rfl rfl zq1 (by decide) (by decide) (fun K hK => ?_) (fun K hK => ?_)
   ·skip
    refine Kd.R_append_rows_step (outK w) (Rr := fun xs cs => ∃ A c, cs = [.slice A xs.length c] ∧ xs.length ≤ c ∧ Kd.C k31 w A xs.length xs) (w0 := w) w.heap.size (by rfl) (.tmp 55) (.tmp 56) 71 50 (.slice none 0 0) 24 rfl Try.underlying71 info50 rfl Nat.zero_lt_one (by decide) (Value.slice (some ⟨Wx.heap.size, 0, none⟩) 0 0) [] l1 A1 l1.length c1 (fun _ => True) (fun _ => False) rfl rfl HO (ReadsRow.imp_ hL mB (fun _ _ h => h)) (fun _ _ h => h) (fun _ hk => hk.elim) (fun _ _ => trivial) mB mB.size (by simp only [List.length_nil]; omega) ?_
    have hn3 := Kd.R_ne HO m3 (by decide)
    intro v57 W3 HO3 hB3 hgr hat
    replace m3 := blk_grown m3 hgr hn3
    replace mB := hB3
    clear HO hB3 hat hn3
    rw [List.nil_append] at HO3
    have HO := HO3
    clear HO3
    refine hK.out _ _ ⟨((blk_cell m3 0).trans rfl), ((blk_cell m3 1).trans rfl), ((blk_cell m3 2).trans rfl), ((blk_cell m3 3).trans rfl), ((blk_cell m3 4).trans rfl), ((blk_cell m3 5).trans rfl), ((blk_cell m3 6).trans rfl), ((blk_cell m3 7).trans rfl), ((blk_cell m3 8).trans rfl)⟩ (fun hHeld => ?_)
    clear hK K
    refine norm_ zq29 ?_
    refine one_ (i := 5) (N := some 59) #[true, true, true, true, true, true, false, false, false, false, false, false, false] rfl rfl zq1 (by decide) (fun K hK => ?_)
    refine value_ (w1 := ?_) (v := ?_) (by rfl) rfl ?_ ?_
    rotate_left 2
    ·go_simp
     constructor
     ·rfl
     ·rfl
    have m59 : Blk (W3.alloc (.cells #[.slice A2 l2.length c2] 50)) (W3.heap.size) #[.slice A2 l2.length c2] 50 := by have h_ := blk_new W3 (.cells #[.slice A2 l2.length c2] 50); first | exact h_ | (simp only [World.size_alloc] at h_; exact h_)
    replace HO := Kd.R_below HO (below_alloc (Below.refl _ _) (.cells #[.slice A2 l2.length c2] 50))
    replace m3 := blk_alloc m3 (.cells #[.slice A2 l2.length c2] 50)
    replace mB := below_alloc mB (.cells #[.slice A2 l2.length c2] 50)
    refine hK.out _ _ ⟨((blk_cell m3 0).trans rfl), ((blk_cell m3 1).trans rfl), ((blk_cell m3 2).trans rfl), ((blk_cell m3 3).trans rfl), ((blk_cell m3 4).trans rfl), ((blk_cell m3 5).trans rfl), ((blk_cell m3 6).trans rfl), ((blk_cell m3 7).trans rfl), ((blk_cell m3 8).trans rfl)⟩ (fun hHeld => ?_)
    clear hK K
    refine norm_ zq50 ?_
    exact norm_ zq26 (hCont ((Value.slice (some ⟨Wx.heap.size, 0, none⟩) 0 0), v57, W3.heap.size) _ ⟨m3, m59, HO, mB⟩)
   ·skip
    refine value_ (w1 := ?_) (v := ?_) (by rfl) rfl ?_ ?_
    rotate_left 2
    ·go_simp
     constructor
     ·rfl
     ·rfl
    have m59 : Blk ((Wx.alloc (.cells #[] 50)).alloc (.cells #[.slice A2 l2.length c2] 50)) (Wx.heap.size + 1) #[.slice A2 l2.length c2] 50 := by have h_ := blk_new (Wx.alloc (.cells #[] 50)) (.cells #[.slice A2 l2.length c2] 50); first | exact h_ | (simp only [World.size_alloc] at h_; exact h_)
    have hne : some (Wx.heap.size + 1) ≠ (Value.slice (some ⟨Wx.heap.size, 0, none⟩) 0 0).ownBlock := fun hb => by injection hb with hb; dsimp only at hb; omega
    replace HO := Kd.R_below HO (below_alloc (Below.refl _ _) (.cells #[.slice A2 l2.length c2] 50))
    replace m3 := blk_alloc m3 (.cells #[.slice A2 l2.length c2] 50)
    replace mB := below_alloc mB (.cells #[.slice A2 l2.length c2] 50)
    refine hK.out _ _ ⟨((blk_cell m3 0).trans rfl), ((blk_cell m3 1).trans rfl), ((blk_cell m3 2).trans rfl), ((blk_cell m3 3).trans rfl), ((blk_cell m3 4).trans rfl), ((blk_cell m3 5).trans rfl), ((blk_cell m3 6).trans rfl), ((blk_cell m3 7).trans rfl), ((blk_cell m3 8).trans rfl)⟩ (fun hHeld => ?_)
    clear hK K
    refine norm_ zq50 ?_
    refine one_ (i := 3) (N := some 57) #[true, true, true, true, true, true, false, false, false, false, false, false, false] rfl rfl zq1 (by decide) (fun K hK => ?_)
    refine Kd.R_append_rows_step (outK w) (Rr := fun xs cs => ∃ A c, cs = [.slice A xs.length c] ∧ xs.length ≤ c ∧ Kd.C k31 w A xs.length xs) (w0 := w) w.heap.size (by rfl) (.tmp 55) (.tmp 56) 71 50 (.slice none 0 0) 24 rfl Try.underlying71 info50 rfl Nat.zero_lt_one (by decide) (Value.slice (some ⟨Wx.heap.size, 0, none⟩) 0 0) [] l1 A1 l1.length c1 (fun _ => True) (fun _ => False) rfl rfl HO (ReadsRow.imp_ hL mB (fun _ _ h => h)) (fun _ _ h => h) (fun _ hk => hk.elim) (fun _ _ => trivial) mB mB.size (by simp only [List.length_nil]; omega) ?_
    have hn3 := Kd.R_ne HO m3 (by decide)
    intro v57 W3 HO3 hB3 hgr hat
    replace m3 := blk_grown m3 hgr hn3
    replace m59 := blk_grown m59 hgr hne
    replace mB := hB3
    clear HO hB3 hat hn3
    rw [List.nil_append] at HO3
    have HO := HO3
    clear HO3
    refine hK.out _ _ ⟨((blk_cell m3 0).trans rfl), ((blk_cell m3 1).trans rfl), ((blk_cell m3 2).trans rfl), ((blk_cell m3 3).trans rfl), ((blk_cell m3 4).trans rfl), ((blk_cell m3 5).trans rfl), ((blk_cell m3 6).trans rfl), ((blk_cell m3 7).trans rfl), ((blk_cell m3 8).trans rfl)⟩ (fun hHeld => ?_)
    clear hK K
    refine norm_ zq29 ?_
    exact norm_ zq26 (hCont ((Value.slice (some ⟨Wx.heap.size, 0, none⟩) 0 0), v57, Wx.heap.size + 1) _ ⟨m3, m59, HO, mB⟩)
  ·skip
   refine value_ (w1 := ?_) (v := ?_) (by rfl) rfl ?_ ?_
   rotate_left 2
   ·go_simp
    constructor
    ·rfl
    ·rfl
   have m59 : Blk (Wx.alloc (.cells #[.slice A2 l2.length c2] 50)) (Wx.heap.size) #[.slice A2 l2.length c2] 50 := by have h_ := blk_new Wx (.cells #[.slice A2 l2.length c2] 50); first | exact h_ | (simp only [World.size_alloc] at h_; exact h_)
   replace m3 := blk_alloc m3 (.cells #[.slice A2 l2.length c2] 50)
   replace mB := below_alloc mB (.cells #[.slice A2 l2.length c2] 50)
   refine hK.out _ _ ⟨((blk_cell m3 0).trans rfl), ((blk_cell m3 1).trans rfl), ((blk_cell m3 2).trans rfl), ((blk_cell m3 3).trans rfl), ((blk_cell m3 4).trans rfl), ((blk_cell m3 5).trans rfl), ((blk_cell m3 6).trans rfl), ((blk_cell m3 7).trans rfl), ((blk_cell m3 8).trans rfl)⟩ (fun hHeld => ?_)
   clear hK K
   refine norm_ zq50 ?_
   refine one_ (i := 1) (N := some 55) #[true, true, true, false, true, true, false, false, false, false, false, false, false] rfl rfl zq1 (by decide) (fun K hK => ?_)
   refine value_ (w1 := ?_) (v := ?_) (by rfl) rfl ?_ ?_
   rotate_left 2
   ·go_simp
    constructor
    ·rfl
    ·rfl
   have HO : Kd.R (outK w) 50 ((Wx.alloc (.cells #[.slice A2 l2.length c2] 50)).alloc (.cells #[] 50)) w.heap.size (fun _ => True) (Value.slice (some ⟨Wx.heap.size + 1, 0, none⟩) 0 0) [] := ⟨fun _ _ => trivial, [], (by have h_ := World.ownsRow_made (e := 50) (size := 1) (Wx.alloc (.cells #[.slice A2 l2.length c2] 50)) #[] 0 mB.size (by decide) rfl; first | exact h_ | (simp only [World.size_alloc] at h_; exact h_)), Reps.none _ _⟩
   replace m59 := blk_alloc m59 (.cells #[] 50)
   have hne : some (Wx.heap.size) ≠ (Value.slice (some ⟨Wx.heap.size + 1, 0, none⟩) 0 0).ownBlock := fun hb => by injection hb with hb; dsimp only at hb; omega
   replace m3 := blk_alloc m3 (.cells #[] 50)
   replace mB := below_alloc mB (.cells #[] 50)
   refine hK.out _ _ ⟨((blk_cell m3 0).trans rfl), ((blk_cell m3 1).trans rfl), ((blk_cell m3 2).trans rfl), ((blk_cell m3 3).trans rfl), ((blk_cell m3 4).trans rfl), ((blk_cell m3 5).trans rfl), ((blk_cell m3 6).trans rfl), ((blk_cell m3 7).trans rfl), ((blk_cell m3 8).trans rfl)⟩ (fun hHeld => ?_)
   clear hK K
   refine norm_ zq49 ?_
   refine one_ (i := 3) (N := some 57) #[true, true, true, true, true, true, false, false, false, false, false, false, false] rfl rfl zq1 (by decide) (fun K hK => ?_)
   refine Kd.R_append_rows_step (outK w) (Rr := fun xs cs => ∃ A c, cs = [.slice A xs.length c] ∧ xs.length ≤ c ∧ Kd.C k31 w A xs.length xs) (w0 := w) w.heap.size (by rfl) (.tmp 55) (.tmp 56) 71 50 (.slice none 0 0) 24 rfl Try.underlying71 info50 rfl Nat.zero_lt_one (by decide) (Value.slice (some ⟨Wx.heap.size + 1, 0, none⟩) 0 0) [] l1 A1 l1.length c1 (fun _ => True) (fun _ => False) rfl rfl HO (ReadsRow.imp_ hL mB (fun _ _ h => h)) (fun _ _ h => h) (fun _ hk => hk.elim) (fun _ _ => trivial) mB mB.size (by simp only [List.length_nil]; omega) ?_
   have hn3 := Kd.R_ne HO m3 (by decide)
   intro v57 W3 HO3 hB3 hgr hat
   replace m3 := blk_grown m3 hgr hn3
   replace m59 := blk_grown m59 hgr hne
   replace mB := hB3
   clear HO hB3 hat hn3
   rw [List.nil_append] at HO3
   have HO := HO3
   clear HO3
   refine hK.out _ _ ⟨((blk_cell m3 0).trans rfl), ((blk_cell m3 1).trans rfl), ((blk_cell m3 2).trans rfl), ((blk_cell m3 3).trans rfl), ((blk_cell m3 4).trans rfl), ((blk_cell m3 5).trans rfl), ((blk_cell m3 6).trans rfl), ((blk_cell m3 7).trans rfl), ((blk_cell m3 8).trans rfl)⟩ (fun hHeld => ?_)
   clear hK K
   refine norm_ zq29 ?_
   exact norm_ zq26 (hCont ((Value.slice (some ⟨Wx.heap.size + 1, 0, none⟩) 0 0), v57, Wx.heap.size) _ ⟨m3, m59, HO, mB⟩)
 rintro ⟨v55, v57, g59⟩ W5 ⟨m3, m59, HO, mB⟩
 dsimp only at m3 m59 HO mB
 have hHeld : (W5.cell? ⟨g3, 0, none⟩ = some (.int .i64 a0_0) ∧ W5.cell? ⟨g3, 1, none⟩ = some (.int .i64 a0_1) ∧ W5.cell? ⟨g3, 2, none⟩ = some (.int .i64 a0_2) ∧ W5.cell? ⟨g3, 3, none⟩ = some (.int .i64 a0_3) ∧ W5.cell? ⟨g3, 4, none⟩ = some (.int .i64 a0_4) ∧ W5.cell? ⟨g3, 5, none⟩ = some (.int .i64 a0_5) ∧ W5.cell? ⟨g3, 6, none⟩ = some (.int .i64 a0_6) ∧ W5.cell? ⟨g3, 7, none⟩ = some (.slice A0_7 l0_7.length c0_7) ∧ W5.cell? ⟨g3, 8, none⟩ = some (.slice A0_8 l0_8.length c0_8)) := ⟨((blk_cell m3 0).trans rfl), ((blk_cell m3 1).trans rfl), ((blk_cell m3 2).trans rfl), ((blk_cell m3 3).trans rfl), ((blk_cell m3 4).trans rfl), ((blk_cell m3 5).trans rfl), ((blk_cell m3 6).trans rfl), ((blk_cell m3 7).trans rfl), ((blk_cell m3 8).trans rfl)⟩
 refine norm_ (a' := ?_) ?_ ?_
 rotate_left
 ·simp only [putAll, Act.put, List.setIfInBounds_toArray, List.set_cons_zero, List.set_cons_succ]
  rfl
 refine one_ (i := 6) (N := some 60) #[true, true, true, true, true, true, true, false, false, false, false, false, false] rfl rfl zq1 (by decide) (fun K hK => ?_)
 refine Kd.R_append_rows_step (outK w) (Rr := fun xs cs => ∃ A c, cs = [.slice A xs.length c] ∧ xs.length ≤ c ∧ Kd.C k31 w A xs.length xs) (w0 := w) w.heap.size (by rfl) (.tmp 57) (.tmp 59) 71 50 (.slice none 0 0) 24 rfl Try.underlying71 info50 rfl Nat.zero_lt_one (by decide) v57 l1 [l2] (some ⟨g59, 0, none⟩) 1 1 (fun _ => True) (fun _ => False) rfl rfl HO (outK_one w W5 g59 A2 c2 l2 m59 hc2 hr2) (fun _ _ h => h) (fun _ hk => hk.elim) (fun _ _ => trivial) mB mB.size (by omega) ?_
 have hn3 := Kd.R_ne HO m3 (by decide)
 intro v60 W6 HO6 hB6 hgr hat
 replace m3 := blk_grown m3 hgr hn3
 replace mB := hB6
 clear HO hB6 hat hn3 m59
 obtain ⟨A6, c6, e6, hc6, hC6⟩ := Kd.R_reads HO6
 subst e6
 refine hK.out _ _ ⟨((blk_cell m3 0).trans rfl), ((blk_cell m3 1).trans rfl), ((blk_cell m3 2).trans rfl), ((blk_cell m3 3).trans rfl), ((blk_cell m3 4).trans rfl), ((blk_cell m3 5).trans rfl), ((blk_cell m3 6).trans rfl), ((blk_cell m3 7).trans rfl), ((blk_cell m3 8).trans rfl)⟩ (fun hHeld => ?_)
 clear hK K
 refine norm_ (by show Act.put _ (some 60) _ = _; simp only [Act.put, List.setIfInBounds_toArray, List.set_cons_zero, List.set_cons_succ, i64_w, i32_w]; rfl) ?_
 refine one_ (i := 7) (N := some 61) #[true, true, true, true, true, true, true, true, false, false, false, false, false] rfl rfl zq1 (by decide) (fun K hK => ?_)
 have hcon_ := glider_Visited.calls k a0_0 a0_1 a0_2 a0_3 a0_4 a0_5 a0_6 A0_7 c0_7 l0_7 A0_8 c0_8 l0_8 A6 c6 (l1 ++ [l2]) r1 r2 W6 (Kd.C_below hr0_7 mB) hc0_7 (Kd.C_below hr0_8 mB) hc0_8 (outK_slice mB hC6) hc6 HH.out
 refine goes_ Try.func40 zq1 rfl #[.agg #[.int .i64 a0_0, .int .i64 a0_1, .int .i64 a0_2, .int .i64 a0_3, .int .i64 a0_4, .int .i64 a0_5, .int .i64 a0_6, .slice A0_7 l0_7.length c0_7, .slice A0_8 l0_8.length c0_8], .slice A6 (l1 ++ [l2]).length c6] (by rfl) rfl rfl zq18 ?_
 with_reducible refine (hcon_).mono ?_
 rintro e w7 ⟨v0_, rfl, hRv, hb⟩
 refine ⟨_, rfl, ?_⟩
 clear hcon_
 replace hRv := Kd.R_lower hRv mB.size
 replace m3 := blk_below m3 hb
 replace mB := below_step mB hb
 clear hb
 refine hK.out _ _ ⟨((blk_cell m3 0).trans rfl), ((blk_cell m3 1).trans rfl), ((blk_cell m3 2).trans rfl), ((blk_cell m3 3).trans rfl), ((blk_cell m3 4).trans rfl), ((blk_cell m3 5).trans rfl), ((blk_cell m3 6).trans rfl), ((blk_cell m3 7).trans rfl), ((blk_cell m3 8).trans rfl)⟩ (fun hHeld => ?_)
 clear hK K
 refine norm_ (by show Act.put _ (some 61) _ = _; simp only [Act.put, List.setIfInBounds_toArray, List.set_cons_zero, List.set_cons_succ, i64_w, i32_w]; rfl) ?_
 refine zpz (i := 8) (N := some 53) zq1 ?_
 refine zpz (i := 9) (N := some 62) zq1 ?_
 refine zpz (i := 10) (N := some 63) zq1 ?_
 refine zpz (i := 11) (N := some 10) zq1 ?_
 refine zpz (i := 12) (N := some 11) zq1 ?_
 refine done_ zq1 ?_
 exact HQ.out _ _ _ _ _ _ _ _ _ _ hRv mB
end Go.Proofs.Ytmhaiihjfgfaoaa.Pr
end
