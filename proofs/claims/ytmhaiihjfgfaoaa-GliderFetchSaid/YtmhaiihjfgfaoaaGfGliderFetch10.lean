import Derived.Test.YtmhaiihjfgfaoaaGfGliderFetch3
import Derived.Test.YtmhaiihjfgfaoaaGfGliderFetch9
import Derived.Test.YtmhaiihjfgfaoaaGfGliderFetch7
set_option linter.unusedVariables false
set_option linter.unusedSimpArgs false
open Go.Value renaming int → U
open Go.IntKind renaming i64 → Z
open Bool renaming true → ab, false → ac
section
namespace Go.Proofs.Ytmhaiihjfgfaoaa.Gl
open Go.RowKit Go.Shelf Go.Proofs.YtmhaiihjfgfaoaaW.PrintWords Go.Proofs.YtmhaiihjfgfaoaaW.PrintLast Go.Proofs.YtmhaiihjfgfaoaaW.PrintMore Go.Proofs.Ytmhaiihjfgfaoaa.Pr Go.Proofs.YtmhaiihjfgfaoaaW.Round
set_option linter.unusedVariables false
set_option linter.unusedSimpArgs false
attribute [local go_sem] gp gq iA iB gu
def ow (x lo hi:Int):Bool:=decide (lo≤x) && decide (x≤hi)
theorem jC {x lo hi:Int}:ow x lo hi = true↔lo≤x∧x≤hi:=by unfold ow;simp
theorem GH (x lo hi:Int) (w:World):Calls Try.prog 74 #[U Z x,U Z lo,U Z hi] w (zn (.bool (ow x lo hi)) w) :=
 (cB.calls x lo hi (ow x lo hi) w (by
  unfold cB.f ow
  by_cases h:x ≥ lo
  ·rw [if_pos h,show decide (lo≤x) = true from decide_eq_true h];simp
  ·rw [if_neg h,show decide (lo≤x) = false from decide_eq_false h];simp)).mono fun _ _ h=>⟨h.1,h.2.below⟩
def MK (lo hi:Int):Bool:=!(decide (lo > hi) || decide (lo < -1073741824) || decide (hi > 1073741824))
theorem BS {lo hi:Int}:MK lo hi = true↔lo≤hi∧-1073741824≤lo∧hi≤1073741824:=by
 unfold MK
 simp only [Bool.not_eq_true',Bool.or_eq_false_iff,decide_eq_false_iff_not]
 omega
theorem adE (k:Nat) (lo hi:Int):lq.f (k+2) lo hi = some (if MK lo hi then 0 else 2):=by
 unfold lq.f dU.f MK
 simp only [dU.l0,ql]
 by_cases h1:hi < lo
 ·simp [h1]
  try omega
 ·by_cases h2:lo < -1073741824
  ·simp [h1,h2]
   try omega
  ·by_cases h3:1073741824 < hi
   ·simp [h1,h2,h3]
   ·have h3':hi≤1073741824:=by omega
    have h2':-1073741824≤lo:=by omega
    have h1':lo≤hi:=by omega
    simp [h1,h2,h3,wrap64,h3',h2',h1']
def xq (lo hi a b:Int):Bool:=MK lo hi && decide (a≤lo) && decide (hi≤b)
theorem aaH (k:Nat) (lo hi a b:Int):di.f (k+2) lo hi a b = some (xq lo hi a b):=by
 unfold di.f xq
 rw [adE,Option.bind_some]
 cases MK lo hi with
 |false=>rfl
 |true =>
  by_cases h:lo ≥ a
  ·rw [if_pos rfl,if_pos rfl,if_pos h,show decide (a≤lo) = true from decide_eq_true h];simp
  ·rw [if_pos rfl,if_pos rfl,if_neg h,show decide (a≤lo) = false from decide_eq_false h];simp
theorem WO (lo hi a b:Int) (w:World):Calls Try.prog 77 #[.agg #[U Z lo,U Z hi],U Z a,U Z b] w (zn (.bool (xq lo hi a b)) w):=di.calls 2 _ _ _ _ _ w (aaH 0 lo hi a b)
theorem adF {α:Type} {p:α→Bool} {l:List α} {k:Nat} {x:α} (hk:l[k]? = some x) (h0:(l.take k).any p = false) (hx:p x = true):l.findIdx? p = some k:=by
 have hlt:=(List.getElem?_eq_some_iff.1 hk).1
 rw [List.findIdx?_eq_some_iff_getElem]
 refine ⟨hlt,by rw [(List.getElem?_eq_some_iff.1 hk).2];exact hx,fun j hj=>?_⟩
 have:=List.any_eq_false.1 h0 l[j] (by rw [List.mem_take_iff_getElem];exact ⟨j,by omega,rfl⟩)
 simpa using this
def adG {α:Type} (p:α→Bool) (l:List α):Int:=match l.findIdx? p with|none=>-1|some i=>i
theorem aly {α:Type} (p:α→Bool) (l:List α):(adG p l < 0∧l.any p = false)∨(0≤adG p l∧l.any p = true):=by
 unfold adG
 cases h:l.findIdx? p with
 |none =>
  refine .inl ⟨by decide,?_⟩
  rw [List.any_eq_false]
  intro x hx
  have:=List.findIdx?_eq_none_iff.1 h x hx
  simp [this]
 |some i =>
  obtain ⟨h1,h2,_⟩:=List.findIdx?_eq_some_iff_getElem.1 h
  exact .inr ⟨by dsimp only;omega,List.any_eq_true.2 ⟨_,List.getElem_mem h1,h2⟩⟩
section
variable {P:Program} {Q:Exit→Act→World→Prop} {ops:Array Oper}
end
set_option maxRecDepth 100000 in
set_option maxHeartbeats 2000000 in
theorem ajN (gs:Nat) (lb:Array Value) (g:rq→Bool) (A:Option Addr) (c:Nat) (l:List rq) (w:World) (hC:Kd.C GI w A l.length l) (hc:l.length≤c)
 (egs:∀ args w,(callFunc gs args).run Try.prog w = .ok (.enter gs args) w)
 (hg:∀ x W,Below w.heap.size w W→Calls Try.prog gs (#[.agg #[U Z x.f0.f0,U Z x.f0.f1,U Z x.f1.f0,U Z x.f1.f1]]++lb) W (zn (.bool (g x)) W)):
 Calls Try.prog 121 #[.slice A l.length c,.func (.func gs) #[] lb] w (zn (U Z (adG g l)) w):=by
 have alz:=Try.underlying40
 have pz:=Try.underlying27
 have hb:=hC.2.1
 have HI:Hid (adG g l = match l.findIdx? g with|none=>-1|some i=>(i:Int)):=Lib.hid rfl
 go_enter Try.func121,Try.ntmps121
 go_wp2
 go_loopw [8] (fun i wr=>∃ (k:Nat),k≤l.length∧i = U Z k∧Hid ((l.take k).any g = false)∧Below w.heap.size w wr) (fun i _=>l.length - (intOf i).toNat)
 case atStart=>exact ⟨0,Nat.zero_le _,rfl,Lib.hid (by simp),Below.refl _ _⟩
 case round =>
  obtain ⟨k,hk,rfl,HA,mB⟩:=hrel
  by_cases hlt:k < l.length
  ·obtain ⟨ad,rfl,hx0,hx1,hx2,hx3⟩:=zo hC k (by omega) (by omega)
   simp only [Int.toNat_natCast] at hx0 hx1 hx2 hx3
   replace hx0:=(mB.cell (World.block_lt_of_cell? w _ hx0)).trans hx0
   replace hx1:=(mB.cell (World.block_lt_of_cell? w _ hx1)).trans hx1
   replace hx2:=(mB.cell (World.block_lt_of_cell? w _ hx2)).trans hx2
   replace hx3:=(mB.cell (World.block_lt_of_cell? w _ hx3)).trans hx3
   have hlk:l[k]? = some (ay l (k:Int)):=by simp [ay,List.getD_eq_getElem?_getD,hlt]
   have htk:l.take (k+1) = l.take k++[ay l (k:Int)]:=by rw [List.take_add_one,hlk];rfl
   generalize ay l (k:Int) = x at*
   have HT:=Lib.hid htk
   have HK:=Lib.hid hlk
   clear htk hlk
   go_wp2_with fail
   have hcon:=hg x wr mB
   (with_reducible refine hcon.mono ?_)
   clear hcon hx0 hx1 hx2 hx3
   rintro e W1 ⟨rfl,hb1⟩
   replace mB:=dY mB hb1
   clear hb1
   cases hbx:g x with
   |true =>
    have HE:=Lib.hid (HI.out.trans (by rw [adF HK.out HA.out hbx]))
    clear hbx
    go_wp2
    go_ret
    exact ⟨by rw [HE.out];rfl,mB⟩
   |false =>
    have HB:=Lib.hid hbx
    clear hbx
    go_wp2
    go_roundw
    case rel=>exact ⟨k+1,by omega,by simp,Lib.hid (by rw [HT.out,List.any_append,HA.out,List.any_cons,HB.out];rfl),mB⟩
    case measure=>simp [intOf];omega
  ·obtain rfl:k = l.length:=by omega
   rw [List.take_length] at HA
   have hn:l.findIdx? g = none:=by
    rw [List.findIdx?_eq_none_iff]
    intro x hx
    have:=List.any_eq_false.1 HA.out x hx
    simpa using this
   have HE:=Lib.hid (HI.out.trans (by rw [hn]))
   clear hn
   go_wp2
   go_ret
   exact ⟨by rw [HE.out];rfl,mB⟩
set_option maxHeartbeats 1000000 in
theorem adH (gs:Nat) (lb:Array Value) (g:rq→Bool) (A:Option Addr) (c:Nat) (l:List rq) (w:World) (hC:Kd.C GI w A l.length l) (hc:l.length≤c)
 (egs:∀ args w,(callFunc gs args).run Try.prog w = .ok (.enter gs args) w)
 (hg:∀ x W,Below w.heap.size w W→Calls Try.prog gs (#[.agg #[U Z x.f0.f0,U Z x.f0.f1,U Z x.f1.f0,U Z x.f1.f1]]++lb) W (zn (.bool (g x)) W)):
 Calls Try.prog 75 #[.slice A l.length c,.func (.func gs) #[] lb] w (zn (.bool (l.any g)) w):=by
 have hcon:=ajN gs lb g A c l w hC hc egs hg
 clear hg egs
 go_enter Try.func75,Try.ntmps75
 go_wp2_with fail
 (with_reducible refine hcon.mono ?_)
 clear hcon
 rintro e W1 ⟨rfl,mB⟩
 rcases aly g l with ⟨h1,h2⟩|⟨h1,h2⟩
 ·have HA:=Lib.hid h2
  have hd:decide (0≤adG g l) = false:=decide_eq_false (by omega)
  clear h1 h2
  go_wp2
  go_ret
  exact ⟨by rw [HA.out];rfl,mB⟩
 ·have HA:=Lib.hid h2
  have hd:decide (0≤adG g l) = true:=decide_eq_true (by omega)
  clear h1 h2
  go_wp2
  go_ret
  exact ⟨by rw [HA.out];rfl,mB⟩
def U3 (most:Int) (c:rq):Bool:=!xq c.f0.f0 c.f0.f1 (-most) most || !xq c.f1.f0 c.f1.f1 (-most) most
set_option maxRecDepth 100000 in
set_option maxHeartbeats 2000000 in
theorem apR (g1:Nat) (s:oJ) (A7 A8:Option Addr) (c7 c8:Nat) (c:rq) (w:World) (hm0:0≤s.most) (hm1:s.most≤5000) (hB:jh w g1 #[U Z s.nx,U Z s.ny,U Z s.cell,U Z s.slot,U Z s.slots,U Z s.layers,U Z s.most,.slice A7 s.shores.length c7,.slice A8 s.currents.length c8] 25):
 Calls Try.prog 76 #[.agg #[U Z c.f0.f0,U Z c.f0.f1,U Z c.f1.f0,U Z c.f1.f1],.pointer (some ⟨g1,0,none⟩)] w (zn (.bool (U3 s.most c)) w):=by
 have alz:=Try.underlying40
 have pz:=Try.underlying27
 have HB:Hid (U3 s.most c = (!xq c.f0.f0 c.f0.f1 (-s.most) s.most || !xq c.f1.f0 c.f1.f1 (-s.most) s.most)):=Lib.hid rfl
 have c6:∀ o_,(w.alloc o_).cell? ⟨g1,6,none⟩ = some (U Z s.most):=fun o_=>(ah (af hB o_) 6).trans rfl
 go_enter Try.func76,Try.ntmps76
 go_wp2_with fail
 clear c6
 have m1:=hB
 clear hB
 have aWg:=eG m1
 have m2:jh (w.alloc (.cells #[U Z c.f0.f0,U Z c.f0.f1,U Z c.f1.f0,U Z c.f1.f1] 40)) (w.heap.size) #[U Z c.f0.f0,U Z c.f0.f1,U Z c.f1.f0,U Z c.f1.f1] 40:=(by have h_:=gT w (.cells #[U Z c.f0.f0,U Z c.f0.f1,U Z c.f1.f0,U Z c.f1.f1] 40);first|exact h_|(simp only [World.size_alloc] at h_;exact h_))
 replace m1:jh (w.alloc (.cells #[U Z c.f0.f0,U Z c.f0.f1,U Z c.f1.f0,U Z c.f1.f1] 40)) g1 #[U Z s.nx,U Z s.ny,U Z s.cell,U Z s.slot,U Z s.slots,U Z s.layers,U Z s.most,.slice A7 s.shores.length c7,.slice A8 s.currents.length c8] 25:=(af m1 _)
 have mB:Below w.heap.size w (w.alloc (.cells #[U Z c.f0.f0,U Z c.f0.f1,U Z c.f1.f0,U Z c.f1.f1] 40)):=(bA (Below.refl w.heap.size w) _)
 have oI:w.heap.size≤w.heap.size:=Nat.le_refl _
 generalize yX:(w.alloc (.cells #[U Z c.f0.f0,U Z c.f0.f1,U Z c.f1.f0,U Z c.f1.f1] 40)) = W1 at m1 m2 mB ⊢
 clear yX
 generalize hg2:w.heap.size = g2 at m2 ⊢
 have ax7:g1≠g2:=by omega
 have aWh:g2≠g1:=ax7.symm
 have hG2:w.heap.size≤g2:=by omega
 clear oI aWg
 try clear hg2
 have DR:w.heap.size≤W1.heap.size:=mB.size
 have hcon:=WO c.f0.f0 c.f0.f1 (-s.most) s.most W1
 (with_reducible refine hcon.mono ?_)
 clear hcon
 rintro e W2 ⟨rfl,hb⟩
 replace m1:=aU m1 hb
 replace m2:=aU m2 hb
 replace mB:=dY mB hb
 clear hb
 have Dl:w.heap.size≤W2.heap.size:=mB.size
 cases h0:xq c.f0.f0 c.f0.f1 (-s.most) s.most with
 |false =>
  have HR:=Lib.hid (HB.out.trans (by rw [h0];rfl:_ = true))
  clear h0 HB
  go_wp2
  go_ret
  exact ⟨TF,mB⟩
 |true =>
  have H0:=Lib.hid h0
  clear h0
  obtain ⟨aBa,aBb,aBc,aBd⟩:=xy m2
  have c6:=(ah m1 6).trans rfl
  go_wp2_with fail
  clear aBa aBb aBc aBd c6
  have hcon:=WO c.f1.f0 c.f1.f1 (-s.most) s.most W2
  (with_reducible refine hcon.mono ?_)
  clear hcon
  rintro e W3 ⟨rfl,hb⟩
  replace m1:=aU m1 hb
  replace m2:=aU m2 hb
  replace mB:=dY mB hb
  clear hb
  have LA:w.heap.size≤W3.heap.size:=mB.size
  cases h1:xq c.f1.f0 c.f1.f1 (-s.most) s.most with
  |false =>
   have HR:=Lib.hid (HB.out.trans (by rw [H0.out,h1];rfl:_ = true))
   clear h1 HB
   go_wp2
   go_ret
   exact ⟨TF,mB⟩
  |true =>
   have HR:=Lib.hid (HB.out.trans (by rw [H0.out,h1];rfl:_ = false))
   clear h1 HB
   go_wp2
   go_ret
   exact ⟨TF,mB⟩
def U4 (s:oJ):Bool:=ow s.nx 1 12 && ow s.ny 1 12 && ow s.cell 100 65536 && ow s.slot 1 1048576 && ow s.slots 1 16 && ow s.layers 1 3 && ow s.most 0 5000 && decide ((s.shores.length:Int) = s.nx*s.ny) && decide ((s.currents.length:Int) = s.slots*s.layers*(s.nx*s.ny)) && !s.currents.any (U3 s.most)
def BU (s:oJ):Int:=if U4 s then 0 else 2
set_option maxRecDepth 100000 in
set_option maxHeartbeats 8000000 in
theorem apS (s:oJ) (A7 A8:Option Addr) (c7 c8:Nat) (w:World) (h7:s.shores.length≤c7) (hC7:Kd.C Kd.bool w A7 s.shores.length s.shores) (h8:s.currents.length≤c8) (hC8:Kd.C GI w A8 s.currents.length s.currents):
 Calls Try.prog 25 #[.agg #[U Z s.nx,U Z s.ny,U Z s.cell,U Z s.slot,U Z s.slots,U Z s.layers,U Z s.most,.slice A7 s.shores.length c7,.slice A8 s.currents.length c8]] w (zn (U Z (BU s)) w):=by
 have BV:=Try.underlying25
 have hb7:=hC7.2.1
 have hb8:=hC8.2.1
 have HE:Hid (BU s = if U4 s then 0 else 2):=Lib.hid rfl
 have HB:Hid (U4 s = (ow s.nx 1 12 && ow s.ny 1 12 && ow s.cell 100 65536 && ow s.slot 1 1048576 && ow s.slots 1 16 && ow s.layers 1 3 && ow s.most 0 5000 && decide ((s.shores.length:Int) = s.nx*s.ny) && decide ((s.currents.length:Int) = s.slots*s.layers*(s.nx*s.ny)) && !s.currents.any (U3 s.most))):=Lib.hid rfl
 go_enter Try.func25,Try.ntmps25
 go_wp2_with fail
 have m1:jh (w.alloc (.cells #[U Z s.nx,U Z s.ny,U Z s.cell,U Z s.slot,U Z s.slots,U Z s.layers,U Z s.most,.slice A7 s.shores.length c7,.slice A8 s.currents.length c8] 25)) (w.heap.size) #[U Z s.nx,U Z s.ny,U Z s.cell,U Z s.slot,U Z s.slots,U Z s.layers,U Z s.most,.slice A7 s.shores.length c7,.slice A8 s.currents.length c8] 25:=alA
 have mB:Below w.heap.size w (w.alloc (.cells #[U Z s.nx,U Z s.ny,U Z s.cell,U Z s.slot,U Z s.slots,U Z s.layers,U Z s.most,.slice A7 s.shores.length c7,.slice A8 s.currents.length c8] 25)):=(bA (Below.refl w.heap.size w) _)
 have oI:w.heap.size≤w.heap.size:=Nat.le_refl _
 generalize yX:(w.alloc (.cells #[U Z s.nx,U Z s.ny,U Z s.cell,U Z s.slot,U Z s.slots,U Z s.layers,U Z s.most,.slice A7 s.shores.length c7,.slice A8 s.currents.length c8] 25)) = W0 at m1 mB ⊢
 clear yX
 generalize hg1:w.heap.size = g1 at m1 ⊢
 have hG1:w.heap.size≤g1:=by omega
 clear oI
 try clear hg1
 have VG:w.heap.size≤W0.heap.size:=mB.size
 have hcon:=GH s.nx 1 12 W0
 (with_reducible refine hcon.mono ?_)
 clear hcon
 rintro e W1 ⟨rfl,hb⟩
 replace m1:=aU m1 hb
 replace mB:=dY mB hb
 clear hb
 have DR:w.heap.size≤W1.heap.size:=mB.size
 cases h_:ow s.nx 1 12 with
 |false =>
  have HZ:Hid (BU s = 2):=Lib.hid (by rw [HE.out,HB.out,h_];simp)
  clear h_ HE HB
  go_wp2
  go_ret
  exact ⟨yY,mB⟩
 |true =>
  have b0:=jC.1 h_
  have H0:=Lib.hid h_
  clear h_
  obtain ⟨LP,LQ,LU,LV,LW,LX,LY,LZ,L6⟩:=Dm m1
  go_wp2_with fail
  clear LP LQ LU LV LW LX LY LZ L6
  have hcon:=GH s.ny 1 12 W1
  (with_reducible refine hcon.mono ?_)
  clear hcon
  rintro e W2 ⟨rfl,hb⟩
  replace m1:=aU m1 hb
  replace mB:=dY mB hb
  clear hb
  have Dl:w.heap.size≤W2.heap.size:=mB.size
  cases h_:ow s.ny 1 12 with
  |false =>
   have HZ:Hid (BU s = 2):=Lib.hid (by rw [HE.out,HB.out,H0.out,h_];simp)
   clear h_ HE HB
   go_wp2
   go_ret
   exact ⟨yY,mB⟩
  |true =>
   have b1:=jC.1 h_
   have H1:=Lib.hid h_
   clear h_
   obtain ⟨LP,LQ,LU,LV,LW,LX,LY,LZ,L6⟩:=Dm m1
   go_wp2_with fail
   clear LP LQ LU LV LW LX LY LZ L6
   have hcon:=GH s.cell 100 65536 W2
   (with_reducible refine hcon.mono ?_)
   clear hcon
   rintro e W3 ⟨rfl,hb⟩
   replace m1:=aU m1 hb
   replace mB:=dY mB hb
   clear hb
   have LA:w.heap.size≤W3.heap.size:=mB.size
   cases h_:ow s.cell 100 65536 with
   |false =>
    have HZ:Hid (BU s = 2):=Lib.hid (by rw [HE.out,HB.out,H0.out,H1.out,h_];simp)
    clear h_ HE HB
    go_wp2
    go_ret
    exact ⟨yY,mB⟩
   |true =>
    have b2:=jC.1 h_
    have H2:=Lib.hid h_
    clear h_
    obtain ⟨LP,LQ,LU,LV,LW,LX,LY,LZ,L6⟩:=Dm m1
    go_wp2_with fail
    clear LP LQ LU LV LW LX LY LZ L6
    have hcon:=GH s.slot 1 1048576 W3
    (with_reducible refine hcon.mono ?_)
    clear hcon
    rintro e W4 ⟨rfl,hb⟩
    replace m1:=aU m1 hb
    replace mB:=dY mB hb
    clear hb
    have aaI:w.heap.size≤W4.heap.size:=mB.size
    cases h_:ow s.slot 1 1048576 with
    |false =>
     have HZ:Hid (BU s = 2):=Lib.hid (by rw [HE.out,HB.out,H0.out,H1.out,H2.out,h_];simp)
     clear h_ HE HB
     go_wp2
     go_ret
     exact ⟨yY,mB⟩
    |true =>
     have b3:=jC.1 h_
     have H3:=Lib.hid h_
     clear h_
     obtain ⟨LP,LQ,LU,LV,LW,LX,LY,LZ,L6⟩:=Dm m1
     go_wp2_with fail
     clear LP LQ LU LV LW LX LY LZ L6
     have hcon:=GH s.slots 1 16 W4
     (with_reducible refine hcon.mono ?_)
     clear hcon
     rintro e W5 ⟨rfl,hb⟩
     replace m1:=aU m1 hb
     replace mB:=dY mB hb
     clear hb
     have afi:w.heap.size≤W5.heap.size:=mB.size
     cases h_:ow s.slots 1 16 with
     |false =>
      have HZ:Hid (BU s = 2):=Lib.hid (by rw [HE.out,HB.out,H0.out,H1.out,H2.out,H3.out,h_];simp)
      clear h_ HE HB
      go_wp2
      go_ret
      exact ⟨yY,mB⟩
     |true =>
      have b4:=jC.1 h_
      have H4:=Lib.hid h_
      clear h_
      obtain ⟨LP,LQ,LU,LV,LW,LX,LY,LZ,L6⟩:=Dm m1
      go_wp2_with fail
      clear LP LQ LU LV LW LX LY LZ L6
      have hcon:=GH s.layers 1 3 W5
      (with_reducible refine hcon.mono ?_)
      clear hcon
      rintro e W6 ⟨rfl,hb⟩
      replace m1:=aU m1 hb
      replace mB:=dY mB hb
      clear hb
      have a1j:w.heap.size≤W6.heap.size:=mB.size
      cases h_:ow s.layers 1 3 with
      |false =>
       have HZ:Hid (BU s = 2):=Lib.hid (by rw [HE.out,HB.out,H0.out,H1.out,H2.out,H3.out,H4.out,h_];simp)
       clear h_ HE HB
       go_wp2
       go_ret
       exact ⟨yY,mB⟩
      |true =>
       have b5:=jC.1 h_
       have H5:=Lib.hid h_
       clear h_
       obtain ⟨LP,LQ,LU,LV,LW,LX,LY,LZ,L6⟩:=Dm m1
       go_wp2_with fail
       clear LP LQ LU LV LW LX LY LZ L6
       have hcon:=GH s.most 0 5000 W6
       (with_reducible refine hcon.mono ?_)
       clear hcon
       rintro e W7 ⟨rfl,hb⟩
       replace m1:=aU m1 hb
       replace mB:=dY mB hb
       clear hb
       have a1k:w.heap.size≤W7.heap.size:=mB.size
       cases h_:ow s.most 0 5000 with
       |false =>
        have HZ:Hid (BU s = 2):=Lib.hid (by rw [HE.out,HB.out,H0.out,H1.out,H2.out,H3.out,H4.out,H5.out,h_];simp)
        clear h_ HE HB
        go_wp2
        go_ret
        exact ⟨yY,mB⟩
       |true =>
        have b6:=jC.1 h_
        have H6:=Lib.hid h_
        clear h_
        have p1:=iI (show 0≤s.nx by omega) b0.2 (show 0≤s.ny by omega) b1.2
        have p2:=iI (show 0≤s.slots by omega) b4.2 (show 0≤s.layers by omega) b5.2
        have p3:=iI p2.1 p2.2 p1.1 p1.2
        have e1:wrap64 (s.nx*s.ny) = s.nx*s.ny:=by unfold wrap64;omega
        have HN:=Lib.hid e1
        try rw [e1]
        clear e1
        by_cases q7:(s.shores.length:Int) = s.nx*s.ny
        case neg =>
         have h_:decide ((s.shores.length:Int) = s.nx*s.ny) = false:=decide_eq_false q7
         have e_:((s.shores.length:Int) == s.nx*s.ny) = false:=beq_eq_false_iff_ne.2 q7
         have e2_:((s.shores.length:Int) != s.nx*s.ny) = true:=by rw [bne,e_];rfl
         clear q7
         obtain ⟨LP,LQ,LU,LV,LW,LX,LY,LZ,L6⟩:=Dm m1
         have HZ:Hid (BU s = 2):=Lib.hid (by rw [HE.out,HB.out,H0.out,H1.out,H2.out,H3.out,H4.out,H5.out,H6.out,h_];simp)
         clear h_ HE HB
         go_wp2
         go_ret
         exact ⟨yY,mB⟩
        case pos =>
         have h_:decide ((s.shores.length:Int) = s.nx*s.ny) = true:=decide_eq_true q7
         have H7:=Lib.hid h_
         have f7:((s.shores.length:Int) == s.nx*s.ny) = true:=beq_iff_eq.2 q7
         have g7:((s.shores.length:Int) != s.nx*s.ny) = false:=by rw [bne,f7];rfl
         clear h_ q7
         by_cases q8:(s.currents.length:Int) = s.slots*s.layers*(s.nx*s.ny)
         case neg =>
          have h_:decide ((s.currents.length:Int) = s.slots*s.layers*(s.nx*s.ny)) = false:=decide_eq_false q8
          have e_:((s.currents.length:Int) == s.slots*s.layers*(s.nx*s.ny)) = false:=beq_eq_false_iff_ne.2 q8
          have e2_:((s.currents.length:Int) != s.slots*s.layers*(s.nx*s.ny)) = true:=by rw [bne,e_];rfl
          clear q8
          obtain ⟨LP,LQ,LU,LV,LW,LX,LY,LZ,L6⟩:=Dm m1
          have HZ:Hid (BU s = 2):=Lib.hid (by rw [HE.out,HB.out,H0.out,H1.out,H2.out,H3.out,H4.out,H5.out,H6.out,H7.out,h_];simp)
          clear h_ HE HB
          go_wp2
          go_ret
          exact ⟨yY,mB⟩
         case pos =>
          have h_:decide ((s.currents.length:Int) = s.slots*s.layers*(s.nx*s.ny)) = true:=decide_eq_true q8
          have H8:=Lib.hid h_
          have f8:((s.currents.length:Int) == s.slots*s.layers*(s.nx*s.ny)) = true:=beq_iff_eq.2 q8
          have g8:((s.currents.length:Int) != s.slots*s.layers*(s.nx*s.ny)) = false:=by rw [bne,f8];rfl
          clear h_ q8
          obtain ⟨LP,LQ,LU,LV,LW,LX,LY,LZ,L6⟩:=Dm m1
          go_wp2_with fail
          clear LP LQ LU LV LW LX LY LZ L6
          have hcon:=adH 76 #[.pointer (some ⟨g1,0,none⟩)] (U3 s.most) A8 c8 s.currents W7 (Kd.bB hC8 mB) h8 (enters_of Try.func76 aM rfl) (fun x W hW=>apR g1 s A7 A8 c7 c8 x W b6.1 b6.2 (aU m1 hW))
          (with_reducible refine hcon.mono ?_)
          clear hcon
          rintro e W8 ⟨rfl,hb⟩
          replace m1:=aU m1 hb
          replace mB:=dY mB hb
          clear hb
          have a1l:w.heap.size≤W8.heap.size:=mB.size
          cases h_:s.currents.any (U3 s.most) with
          |true =>
           have HZ:Hid (BU s = 2):=Lib.hid (by rw [HE.out,HB.out,H0.out,H1.out,H2.out,H3.out,H4.out,H5.out,H6.out,H7.out,H8.out,h_];simp)
           clear h_ HE HB
           go_wp2
           go_ret
           exact ⟨yY,mB⟩
          |false =>
           have HZ:Hid (BU s = 0):=Lib.hid (by rw [HE.out,HB.out,H0.out,H1.out,H2.out,H3.out,H4.out,H5.out,H6.out,H7.out,H8.out,h_];simp)
           clear h_ HE HB
           go_wp2
           go_ret
           exact ⟨yY,mB⟩
end Go.Proofs.Ytmhaiihjfgfaoaa.Gl
end
section
namespace Go.Proofs.Ytmhaiihjfgfaoaa.Gl
open Go.RowKit Go.Shelf Go.Proofs.YtmhaiihjfgfaoaaW.PrintWords Go.Proofs.YtmhaiihjfgfaoaaW.PrintLast Go.Proofs.YtmhaiihjfgfaoaaW.PrintMore Go.Proofs.Ytmhaiihjfgfaoaa.Pr Go.Proofs.YtmhaiihjfgfaoaaW.Round
set_option linter.unusedVariables false
set_option linter.unusedSimpArgs false
attribute [local go_sem] gp gq iA iB gu
def Jf (x:Int):Int:=x / 1000000
def upM (x:Int):Int:=-((-x) / 1000000)
def pM (dive:Int) (a:ky) (speed:Int) (u:ky):ky:=⟨a.f0+Jf ((speed+1000*u.f0)*dive),a.f1+upM ((speed+1000*u.f1)*dive)⟩
theorem qw {a b m n:Int} (h0:-m≤a) (h1:a≤m) (h2:0≤b) (h3:b≤n) (hm:0≤m):-(m*n)≤a*b∧a*b≤m*n:=by
 have k1:=Int.mul_le_mul_of_nonneg_right h1 h2
 have k2:=Int.mul_le_mul_of_nonneg_left h3 hm
 have k3:=Int.mul_le_mul_of_nonneg_right h0 h2
 rw [Int.neg_mul] at k3
 omega
theorem tdm (X:Int):X = 1000000*Int.tdiv X 1000000+Int.tmod X 1000000∧(0≤X→0≤Int.tmod X 1000000∧Int.tmod X 1000000 < 1000000)∧(X < 0→-1000000 < Int.tmod X 1000000∧Int.tmod X 1000000≤0):=by
 refine ⟨(Int.mul_tdiv_add_tmod X 1000000).symm,fun h=>?_,fun h=>?_⟩
 ·rw [Int.tmod_eq_emod_of_nonneg h]
  omega
 ·have e:X = -(-X):=by omega
  rw [e,Int.neg_tmod,Int.tmod_eq_emod_of_nonneg (show 0≤-X by omega)]
  omega
theorem alB {a b c d:Int} (h:a = c) (h2:b = d):Ending.returned (.agg #[U Z a,U Z b]) = Ending.returned (.agg #[U Z c,U Z d]):=by rw [h,h2]
set_option maxRecDepth 100000 in
set_option maxHeartbeats 4000000 in
theorem VH (b:Nat) (s:oJ) (v:tF) (a:ky) (speed:Int) (u:ky) (w:World) (hT:nX w b s v) (hV:Fy v) (ha0:-1099511627776≤a.f0∧a.f0≤1099511627776) (ha1:-1099511627776≤a.f1∧a.f1≤1099511627776) (hs0:-5000000≤speed∧speed≤5000000) (hu0:-5000≤u.f0∧u.f0≤5000) (hu1:-5000≤u.f1∧u.f1≤5000):
 Calls Try.prog 131 #[.pointer (some ⟨b,0,none⟩),.agg #[U Z a.f0,U Z a.f1],U Z speed,.agg #[U Z u.f0,U Z u.f1]] w (zn (.agg #[U Z (pM v.dive a speed u).f0,U Z (pM v.dive a speed u).f1]) w):=by
 have pz:=Try.underlying27
 obtain ⟨A7,c7,A8,c8,hB,_⟩:=hT
 have hd:=hV.dive
 have m0:=qw (a:=speed+1000*u.f0) (b:=v.dive) (m:=10000000) (n:=131072) (by omega) (by omega) (by omega) (by omega) (by omega)
 have m1:=qw (a:=speed+1000*u.f1) (b:=v.dive) (m:=10000000) (n:=131072) (by omega) (by omega) (by omega) (by omega) (by omega)
 clear hV
 have HR:Hid (pM v.dive a speed u = ⟨a.f0+Jf ((speed+1000*u.f0)*v.dive),a.f1+upM ((speed+1000*u.f1)*v.dive)⟩):=Lib.hid rfl
 go_enter Try.func131,Try.ntmps131
 go_wp2_with fail
 have mT:=hB
 clear hB
 have Jg:=eG mT
 have m5:jh (((w.alloc (.cells #[U Z a.f0,U Z a.f1] 27)).alloc (.cells #[U Z u.f0,U Z u.f1] 27)).alloc (.cells #[U Z 0,U Z 0] 27)) (w.heap.size) #[U Z a.f0,U Z a.f1] 27:=(af (af aBe _) _)
 have m7:jh (((w.alloc (.cells #[U Z a.f0,U Z a.f1] 27)).alloc (.cells #[U Z u.f0,U Z u.f1] 27)).alloc (.cells #[U Z 0,U Z 0] 27)) (w.heap.size+1) #[U Z u.f0,U Z u.f1] 27:=(af (by have h_:=gT (w.alloc (.cells #[U Z a.f0,U Z a.f1] 27)) (.cells #[U Z u.f0,U Z u.f1] 27);first|exact h_|(simp only [World.size_alloc] at h_;exact h_)) _)
 have m8:jh (((w.alloc (.cells #[U Z a.f0,U Z a.f1] 27)).alloc (.cells #[U Z u.f0,U Z u.f1] 27)).alloc (.cells #[U Z 0,U Z 0] 27)) (w.heap.size+1+1) #[U Z 0,U Z 0] 27:=(by have h_:=gT ((w.alloc (.cells #[U Z a.f0,U Z a.f1] 27)).alloc (.cells #[U Z u.f0,U Z u.f1] 27)) (.cells #[U Z 0,U Z 0] 27);first|exact h_|(simp only [World.size_alloc] at h_;exact h_))
 replace mT:jh (((w.alloc (.cells #[U Z a.f0,U Z a.f1] 27)).alloc (.cells #[U Z u.f0,U Z u.f1] 27)).alloc (.cells #[U Z 0,U Z 0] 27)) b #[U Z s.nx,U Z s.ny,U Z s.cell,U Z s.slot,U Z s.slots,U Z s.layers,U Z s.most,.slice A7 s.shores.length c7,.slice A8 s.currents.length c8,U Z v.speed,U Z v.dive,U Z v.use.f0,U Z v.use.f1,U Z v.drift.f0,U Z v.drift.f1,U Z v.reserve] 110:=(af (af (af mT _) _) _)
 have mB:Below w.heap.size w (((w.alloc (.cells #[U Z a.f0,U Z a.f1] 27)).alloc (.cells #[U Z u.f0,U Z u.f1] 27)).alloc (.cells #[U Z 0,U Z 0] 27)):=(bA (bA (bA (Below.refl w.heap.size w) _) _) _)
 have oI:w.heap.size≤w.heap.size:=Nat.le_refl _
 generalize yX:(((w.alloc (.cells #[U Z a.f0,U Z a.f1] 27)).alloc (.cells #[U Z u.f0,U Z u.f1] 27)).alloc (.cells #[U Z 0,U Z 0] 27)) = W1 at mT m5 m7 m8 mB ⊢
 clear yX
 generalize hg5:w.heap.size = g5 at m5 m7 m8 ⊢
 have WQ:b≠g5:=by omega
 have alC:g5≠b:=WQ.symm
 have hG5:w.heap.size≤g5:=by omega
 generalize hg7:g5+1 = g7 at m7 m8 ⊢
 have adJ:b≠g7:=by omega
 have TG:g5≠g7:=by omega
 have ax8:g7≠b:=adJ.symm
 have alD:g7≠g5:=TG.symm
 have hG7:w.heap.size≤g7:=by omega
 generalize hg8:g7+1 = g8 at m8 ⊢
 have ax9:b≠g8:=by omega
 have adK:g5≠g8:=by omega
 have TH:g7≠g8:=by omega
 have aWi:g8≠b:=ax9.symm
 have aya:g8≠g5:=adK.symm
 have alE:g8≠g7:=TH.symm
 have hG8:w.heap.size≤g8:=by omega
 clear oI Jg
 try clear hg8
 try clear hg7
 try clear hg5
 have DR:w.heap.size≤W1.heap.size:=mB.size
 replace mT:=ag mT
 replace m5:=ag m5
 replace m7:=ag m7
 replace m8:=ag m8
 replace mB:=bO mB
 have aBg:wrap64 (1000*u.f0) = 1000*u.f0:=by unfold wrap64;omega
 have aBh:wrap64 (speed+1000*u.f0) = speed+1000*u.f0:=by unfold wrap64;omega
 have aBi:wrap64 ((speed+1000*u.f0)*v.dive) = (speed+1000*u.f0)*v.dive:=by unfold wrap64;omega
 have aBj:wrap64 (1000*u.f1) = 1000*u.f1:=by unfold wrap64;omega
 have aBk:wrap64 (speed+1000*u.f1) = speed+1000*u.f1:=by unfold wrap64;omega
 have aBl:wrap64 ((speed+1000*u.f1)*v.dive) = (speed+1000*u.f1)*v.dive:=by unfold wrap64;omega
 refine iN (n:=25) (S:=fun w'=>w'.cell? ⟨g7,0,none⟩ = some (U Z u.f0)∧w'.cell? ⟨g7,1,none⟩ = some (U Z u.f1)∧w'.cell? ⟨g5,0,none⟩ = some (U Z a.f0)∧w'.cell? ⟨g5,1,none⟩ = some (U Z a.f1)∧w'.cell? ⟨b,10,none⟩ = some (U Z v.dive)) (ds:=[24]) #[ac,ac,ac,ac,ac,ac,ac,ac,ac,ac,ac,ac,ac,ac,ac,ac,ac,ac,ac,ac,ac,ac,ac,ac,ac] aM rfl rfl ⟨((ah m7 0).trans rfl),((ah m7 1).trans rfl),((ah m5 0).trans rfl),((ah m5 1).trans rfl),((ah mT 10).trans rfl)⟩ (fun hHeld=>?_)
 generalize hWd:World.drew _ = Wx at mB mT m5 m7 m8 hHeld ⊢
 clear hWd
 refine bV (i:=0) (N:=some 12) aM ?_
 refine bV (i:=1) (N:=some 13) aM ?_
 refine bV (i:=5) (N:=some 17) aM ?_
 refine bV (i:=6) (N:=some 18) aM ?_
 refine bV (i:=7) (N:=some 19) aM ?_
 refine bV (i:=8) (N:=some 20) aM ?_
 refine bV (i:=11) (N:=some 23) aM ?_
 refine bV (i:=12) (N:=some 24) aM ?_
 refine bV (i:=16) (N:=some 28) aM ?_
 refine bV (i:=17) (N:=some 29) aM ?_
 refine bV (i:=18) (N:=some 30) aM ?_
 refine bV (i:=19) (N:=some 31) aM ?_
 refine iL (i:=2) (N:=some 14) aM hHeld ?_
 refine bV (i:=3) (N:=some 15) aM ?_
 refine bV (i:=4) (N:=some 16) aM ?_
 refine iL (i:=9) (N:=some 21) aM hHeld ?_
 refine bV (i:=10) (N:=some 22) aM ?_
 refine iL (i:=13) (N:=some 25) aM hHeld ?_
 refine bV (i:=14) (N:=some 26) aM ?_
 refine bV (i:=15) (N:=some 27) aM ?_
 refine iL (i:=20) (N:=some 32) aM hHeld ?_
 refine bV (i:=21) (N:=some 33) aM ?_
 refine bV (i:=22) (N:=some 34) aM ?_
 refine iO (i:=23) (N:=some 9) #[ab,ab,ab,ab,ab,ab,ab,ab,ab,ab,ab,ab,ab,ab,ab,ab,ab,ab,ab,ab,ab,ab,ab,ab,ac] rfl rfl aM (by decide) (fun K hK=>?_)
 refine L8 (w1:=?_) (v:=?_) (by rfl) rfl ?_ ?_
 rotate_left 2
 ·go_simp
  constructor
  ·rfl
  ·rfl
 refine hK.out _ _ ⟨((ah (af m7 (.cells #[U Z 0,U Z 0] 27)) 0).trans rfl),((ah (af m7 (.cells #[U Z 0,U Z 0] 27)) 1).trans rfl),((ah (af m5 (.cells #[U Z 0,U Z 0] 27)) 0).trans rfl),((ah (af m5 (.cells #[U Z 0,U Z 0] 27)) 1).trans rfl),((ah (af mT (.cells #[U Z 0,U Z 0] 27)) 10).trans rfl)⟩ (fun hHeld=>?_)
 clear hK K
 refine dM aBm ?_
 refine TI (i:=24) (N:=none) #[ab,ab,ab,ab,ab,ab,ab,ab,ab,ab,ab,ab,ab,ab,ab,ab,ab,ab,ab,ab,ab,ab,ab,ab,ab] rfl rfl aM (by decide) (fun K hK=>?_)
 have QZ:=gT Wx (.cells #[U Z 0,U Z 0] 27)
 have U5:=bf QZ 0
 have U6:=bf QZ 1
 have Q0:=(ah QZ 0).trans rfl
 have U7:=(ah QZ 1).trans rfl
 refine ve (w1:=?_) (by rfl) rfl ?_ ?_
 rotate_left
 ·go_simp
  rfl
 clear QZ U5 U6 Q0 U7
 refine hK.out _ _ ?_
 clear hK K
 refine jS aM ?_
 clear aBg aBh aBi
 clear aBj aBk aBl
 have aaJ:w.heap.size≤Wx.heap.size:=mB.size
 have Jg:=eG mT
 have O6:=eG m5
 have alF:=eG m7
 have ayb:=eG m8
 have m9:jh (Wx.alloc (.cells #[U Z ((speed+1000*u.f0)*v.dive),U Z ((speed+1000*u.f1)*v.dive)] 27)) (Wx.heap.size) #[U Z ((speed+1000*u.f0)*v.dive),U Z ((speed+1000*u.f1)*v.dive)] 27:=(by have h_:=gT Wx (.cells #[U Z ((speed+1000*u.f0)*v.dive),U Z ((speed+1000*u.f1)*v.dive)] 27);first|exact h_|(simp only [World.size_alloc] at h_;exact h_))
 replace mT:jh (Wx.alloc (.cells #[U Z ((speed+1000*u.f0)*v.dive),U Z ((speed+1000*u.f1)*v.dive)] 27)) b #[U Z s.nx,U Z s.ny,U Z s.cell,U Z s.slot,U Z s.slots,U Z s.layers,U Z s.most,.slice A7 s.shores.length c7,.slice A8 s.currents.length c8,U Z v.speed,U Z v.dive,U Z v.use.f0,U Z v.use.f1,U Z v.drift.f0,U Z v.drift.f1,U Z v.reserve] 110:=(af mT _)
 replace m5:jh (Wx.alloc (.cells #[U Z ((speed+1000*u.f0)*v.dive),U Z ((speed+1000*u.f1)*v.dive)] 27)) g5 #[U Z a.f0,U Z a.f1] 27:=(af m5 _)
 replace m7:jh (Wx.alloc (.cells #[U Z ((speed+1000*u.f0)*v.dive),U Z ((speed+1000*u.f1)*v.dive)] 27)) g7 #[U Z u.f0,U Z u.f1] 27:=(af m7 _)
 replace m8:jh (Wx.alloc (.cells #[U Z ((speed+1000*u.f0)*v.dive),U Z ((speed+1000*u.f1)*v.dive)] 27)) g8 #[U Z 0,U Z 0] 27:=(af m8 _)
 replace mB:Below w.heap.size w (Wx.alloc (.cells #[U Z ((speed+1000*u.f0)*v.dive),U Z ((speed+1000*u.f1)*v.dive)] 27)):=(bA mB _)
 have oI:w.heap.size≤Wx.heap.size:=aaJ
 generalize yX:(Wx.alloc (.cells #[U Z ((speed+1000*u.f0)*v.dive),U Z ((speed+1000*u.f1)*v.dive)] 27)) = W2 at mT m5 m7 m8 m9 mB ⊢
 clear yX
 generalize hg9:Wx.heap.size = g9 at m9 ⊢
 have TJ:b≠g9:=by omega
 have adL:g5≠g9:=by omega
 have L9:g7≠g9:=by omega
 have adM:g8≠g9:=by omega
 have alG:g9≠b:=TJ.symm
 have ayc:g9≠g5:=adL.symm
 have adN:g9≠g7:=L9.symm
 have ayd:g9≠g8:=adM.symm
 have hG9:w.heap.size≤g9:=by omega
 clear oI Jg O6 alF ayb
 try clear hg9
 have Dl:w.heap.size≤W2.heap.size:=mB.size
 have t0:=tdm ((speed+1000*u.f0)*v.dive)
 have t1:=tdm ((speed+1000*u.f1)*v.dive)
 generalize (speed+1000*u.f0)*v.dive = X at*
 generalize (speed+1000*u.f1)*v.dive = Y at*
 generalize hq0:Int.tdiv X 1000000 = q0 at*
 generalize hr0:Int.tmod X 1000000 = r0 at*
 generalize hq1:Int.tdiv Y 1000000 = q1 at*
 generalize hr1:Int.tmod Y 1000000 = r1 at*
 have bq0:-10000000000000≤q0∧q0≤10000000000000:=by omega
 have bq1:-10000000000000≤q1∧q1≤10000000000000:=by omega
 have T0:=Lib.hid t0
 have T1:=Lib.hid t1
 clear t0 t1
 obtain ⟨Q4,TK⟩:=GJ m5
 obtain ⟨WR,WS⟩:=GJ m9
 obtain ⟨aaK,aaL,aBn,aBo⟩:=iZ m8
 go_wp2_with fail
 go_quiet (fail)
 clear hq0 hq1
 go_wp2
 all_goals
  have t0:=T0.out
  have t1:=T1.out
  try simp only [bne_iff_ne,ne_eq,bne_eq_false_iff_eq] at*
  exact bodyPost_ret (results_cell_row rfl _ _ g8 27 #[_,_] (0,0) _ rfl (aN (aN (av m8 _) 0 _ rfl) 1 _ rfl) Try.underlying27 rfl aM) rfl ⟨alB (by rw [HR.out];unfold Jf;dsimp only;omega) (by rw [HR.out];unfold upM;dsimp only;omega),(((qy mB) _).setCell hG8 _).setCell hG8 _⟩
end Go.Proofs.Ytmhaiihjfgfaoaa.Gl
end
section
namespace Go.Proofs.Ytmhaiihjfgfaoaa.Gl
open Go.RowKit Go.Shelf Go.Proofs.YtmhaiihjfgfaoaaW.PrintWords Go.Proofs.YtmhaiihjfgfaoaaW.PrintLast Go.Proofs.YtmhaiihjfgfaoaaW.PrintMore Go.Proofs.Ytmhaiihjfgfaoaa.Pr Go.Proofs.YtmhaiihjfgfaoaaW.Round
set_option linter.unusedVariables false
set_option linter.unusedSimpArgs false
attribute [local go_sem] gp gq iA iB gu
attribute [local go_sem] Oper.semAt_some
def ajO (nx i0:Int) (n:Nat) (k:Int):List Int:=(List.range n).map fun j:Nat=>k*nx+(i0+(j:Int))
def allT (nx i0:Int) (n:Nat) (k0:Int) (m:Nat):List Int:=(List.range m).flatMap fun r:Nat=>ajO nx i0 n (k0+(r:Int))
def DT (nx i0:Int) (n:Nat) (k0:Int) (q j:Nat):List Int:=allT nx i0 n k0 q++ajO nx i0 j (k0+(q:Int))
theorem adO (nx i0:Int) (n:Nat) (k0:Int):DT nx i0 n k0 0 0 = []:=rfl
theorem VI (nx i0:Int) (n:Nat) (k0:Int) (q:Nat):DT nx i0 n k0 q 0 = allT nx i0 n k0 q:=by unfold DT ajO;simp
theorem Ma (nx i0:Int) (n:Nat) (k0:Int) (q j:Nat):DT nx i0 n k0 q (j+1) = DT nx i0 n k0 q j++[(k0+(q:Int))*nx+(i0+(j:Int))]:=by
 unfold DT ajO
 rw [List.range_succ,List.map_append,List.map_singleton,List.append_assoc]
theorem O7 (nx i0:Int) (n:Nat) (k0:Int) (q:Nat):allT nx i0 n k0 (q+1) = DT nx i0 n k0 q n:=by
 unfold DT allT
 rw [List.range_succ,List.flatMap_append,List.flatMap_singleton]
theorem aaM (nx i0:Int) (n:Nat) (k0:Int):∀ (d q:Nat),allT nx i0 n k0 q <+:allT nx i0 n k0 (q+d)
 |0,q=>List.prefix_refl _
 |d+1,q=>by
  refine (aaM nx i0 n k0 d q).trans ?_
  rw [show q+(d+1) = (q+d)+1 by omega,O7]
  exact List.prefix_append _ _
theorem VJ {nx i0:Int} {n:Nat} {k0:Int} {m q j:Nat} (hq:q < m) (hj:j≤n):DT nx i0 n k0 q j <+:allT nx i0 n k0 m:=by
 have h1:DT nx i0 n k0 q j <+:DT nx i0 n k0 q n:=by
  unfold DT
  refine (List.prefix_append_right_inj _).2 ?_
  unfold ajO
  refine List.IsPrefix.map _ ?_
  rw [show n = j+(n - j) by omega,List.range_add]
  exact List.prefix_append _ _
 rw [← O7] at h1
 have h2:=aaM nx i0 n k0 (m - (q+1)) (q+1)
 rw [show q+1+(m - (q+1)) = m by omega] at h2
 exact h1.trans h2
abbrev Fz (s:oJ):={ c:Int // 0≤c∧c < s.nx*s.ny }
def rz (s:oJ) (x:jf):List Int:=allT s.nx (uf s.cell x.f0 s.nx).1 ((uf s.cell x.f0 s.nx).2+1 - (uf s.cell x.f0 s.nx).1).toNat (uf s.cell x.f1 s.ny).1 ((uf s.cell x.f1 s.ny).2+1 - (uf s.cell x.f1 s.ny).1).toNat
def alH (s:oJ) (x:jf) (xs:List (Fz s)):Prop:=xs.map Subtype.val = rz s x
def apV (s:oJ) (x:jf) (xs:List (Fz s)):Prop:=xs.map Subtype.val <+:rz s x
theorem afj {c:Int} {a:ky} {most:Int} (hc:1≤c) (h0:0≤a.f0) (h1:0≤a.f1) (hm:1≤most):(0≤(uf c a most).1∧(uf c a most).1≤most - 1)∧(0≤(uf c a most).2∧(uf c a most).2≤most - 1):=by
 have d0:=Fa h0 hc
 have d1:=Fa h1 hc
 unfold uf zq
 dsimp only
 split <;> omega
def VK (s:oJ) (x:jf):Prop:=(0≤x.f0.f0∧x.f0.f0≤1099511627776)∧(0≤x.f0.f1∧x.f0.f1≤1099511627776)∧(0≤x.f1.f0∧x.f1.f0≤1099511627776)∧(0≤x.f1.f1∧x.f1.f1≤1099511627776)
set_option maxHeartbeats 1000000 in
theorem QB (b:Nat) (x:jf) (w:World):Calls Try.prog 118 #[.pointer (some ⟨b,0,none⟩),.agg #[U Z x.f0.f0,U Z x.f0.f1,U Z x.f1.f0,U Z x.f1.f1]] w fun e w'=>e = .returned (.func (.func 135) #[] #[.pointer (some ⟨w.heap.size,0,none⟩),.pointer (some ⟨w.heap.size+1,0,none⟩)])∧w' = (w.alloc (.cells #[.pointer (some ⟨b,0,none⟩)] 104)).alloc (.cells #[U Z x.f0.f0,U Z x.f0.f1,U Z x.f1.f0,U Z x.f1.f1] 31):=by
 have rO:=Try.underlying31
 go_enter Try.func118,Try.ntmps118
 go_wp2
 go_ret
 exact ⟨rfl,rfl⟩
theorem row_in {nx ny k:Int} (hx:1≤nx) (h0:0≤k) (h1:k≤ny - 1):0≤k*nx∧k*nx≤nx*ny - nx:=by
 refine ⟨Int.mul_nonneg h0 (by omega),?_⟩
 have h:=Int.mul_le_mul_of_nonneg_right h1 (show 0≤nx by omega)
 rw [Int.sub_mul,Int.one_mul,Int.mul_comm ny nx] at h
 exact h
def Env (w0:World) (bp bx b:Nat) (x:jf) (W:World):Prop:=Below w0.heap.size w0 W∧jh W bp #[.pointer (some ⟨b,0,none⟩)] 104∧jh W bx #[U Z x.f0.f0,U Z x.f0.f1,U Z x.f1.f0,U Z x.f1.f1] 31
theorem Env.below {w0:World} {bp bx b:Nat} {x:jf} {W W1:World} (h:Env w0 bp bx b x W) (hb:Below W.heap.size W W1):Env w0 bp bx b x W1:=⟨dY h.1 hb,h.2.1.below hb,h.2.2.below hb⟩
set_option maxRecDepth 100000 in
set_option maxHeartbeats 4000000 in
theorem QC (n:Nat) (hn:1≤n) (l bp bx:Nat) (w0:World) (b:Nat) (s:oJ) (v:tF) (x:jf) (hT:nX w0 b s v) (hS:BX s) (hx:VK s x) (Kp:World→World→Prop) (hKp:∀ A B,Kp A B→Env w0 bp bx b x A→Env w0 bp bx b x B) (J Jx:List (Fz s)→World→Prop)
 (hY:∀ pre c W,J pre W→pre.length < (rz s x).length→YieldAt Fence.wide (n - 1) Try.prog l #[U Z c.1] W fun e W' =>
  (e = .returned (.bool true)∧J (pre++[c]) W'∧Kp W W')∨(e = .returned (.bool false)∧Jx (pre++[c]) W'))
 (hJa:∀ (f:List (Fz s)) W W',J f W→Below W.heap.size W W'→J f W')
 (W:World) (hE:Env w0 bp bx b x W) (h0:J [] W):
 CallsIn Fence.wide n Try.prog 135 #[.func (.yield l) #[] #[],.pointer (some ⟨bp,0,none⟩),.pointer (some ⟨bx,0,none⟩)] W fun e W'=>(∃ v,e = .returned v)∧
  ((∃ xs,alH s x xs∧J xs W')∨(∃ pre,apV s x pre∧Jx pre W')):=by
 have rO:=Try.underlying31
 have pz:=Try.underlying27
 obtain ⟨⟨x0,x1⟩,⟨x2,x3⟩,⟨x4,x5⟩,x6,x7⟩:=hx
 have hcl:=hS.cell
 have hnx:=hS.nx
 have hny:=hS.ny
 have gI:=afj (c:=s.cell) (a:=x.f0) (most:=s.nx) (by omega) x0 x2 hnx.1
 have gK:=afj (c:=s.cell) (a:=x.f1) (most:=s.ny) (by omega) x4 x6 hny.1
 have kN:=fun W (h:nX W b s v)=>QD b s v x.f0 s.nx W h hS x0 x1 x2 x3 hnx.1 hnx.2
 have kM:=fun W (h:nX W b s v)=>QD b s v x.f1 s.ny W h hS x4 x5 x6 x7 hny.1 hny.2
 have hAll:rz s x = allT s.nx (uf s.cell x.f0 s.nx).1 ((uf s.cell x.f0 s.nx).2+1 - (uf s.cell x.f0 s.nx).1).toNat (uf s.cell x.f1 s.ny).1 ((uf s.cell x.f1 s.ny).2+1 - (uf s.cell x.f1 s.ny).1).toNat:=rfl
 generalize uf s.cell x.f0 s.nx = I at*
 generalize uf s.cell x.f1 s.ny = K at*
 obtain ⟨i0,i1⟩:=I
 obtain ⟨k0,k1⟩:=K
 dsimp only at gI gK kN kM hAll
 obtain ⟨⟨i2,i3⟩,i4,i5⟩:=gI
 obtain ⟨⟨k2,k3⟩,k4,k5⟩:=gK
 have HAll:=Lib.hid hAll
 clear hAll hcl
 have hE0:=hE
 obtain ⟨hb0,mP,mX⟩:=hE0
 obtain ⟨A7,c7,A8,c8,mT,_⟩:=hT.below hb0
 clear hb0
 refine callsIn_of_wp Try.func135 rfl trivial ?_ rfl
 simp only [Try.ntmps135,List.size_toArray,List.length_cons,List.length_nil,Nat.reduceAdd,Nat.reduceSub,Array.replicate_succ,Array.replicate_zero,List.push_toArray,List.append_toArray,List.nil_append,List.cons_append]
 gi_wp2_with fail
 refine O8 (wpIn_wide.2 ?_)
 replace mT:=ag mT
 replace mP:=ag mP
 replace mX:=ag mX
 replace h0:=hJa _ _ _ h0 (bO (Below.refl _ _))
 replace hE:=hE.below (bO (Below.refl _ _))
 refine iN (n:=14) (S:=fun w'=>w'.cell? ⟨bp,0,none⟩ = some (.pointer (some ⟨b,0,none⟩))∧w'.cell? ⟨bx,0,none⟩ = some (U Z x.f0.f0)∧w'.cell? ⟨bx,1,none⟩ = some (U Z x.f0.f1)∧w'.cell? ⟨b,0,none⟩ = some (U Z s.nx)) (ds:=[]) #[ac,ac,ac,ac,ac,ac,ac,ac,ac,ac,ac,ac,ac,ac] aM rfl rfl ⟨((ah mP 0).trans rfl),((ah mX 0).trans rfl),((ah mX 1).trans rfl),((ah mT 0).trans rfl)⟩ (fun hHeld=>?_)
 generalize hWd:World.drew _ = Wx at*
 clear hWd
 refine bV (i:=1) (N:=some 12) aM ?_
 refine iL (i:=0) (N:=some 11) aM hHeld ?_
 refine iL (i:=2) (N:=some 13) aM hHeld ?_
 refine iL (i:=3) (N:=some 14) aM hHeld ?_
 refine bV (i:=4) (N:=some 15) aM ?_
 refine bV (i:=5) (N:=some 16) aM ?_
 refine bV (i:=6) (N:=some 17) aM ?_
 refine iL (i:=7) (N:=some 18) aM hHeld ?_
 refine iO (i:=8) (N:=some 19) #[ab,ab,ab,ab,ab,ab,ab,ab,ab,ac,ac,ac,ac,ac] rfl rfl aM (by decide) (fun K hK=>?_)
 have pR:=kN Wx (hT.below hE.1)
 refine gJ Try.func136 aM rfl #[.pointer (some ⟨b,0,none⟩),.agg #[U Z x.f0.f0,U Z x.f0.f1],U Z s.nx] (by rfl) rfl rfl aaN ?_
 with_reducible refine (pR).mono ?_
 rintro e W1 ⟨rfl,hb2⟩
 refine ⟨_,rfl,?_⟩
 clear pR
 replace mT:=aU mT hb2
 replace mP:=aU mP hb2
 replace mX:=aU mX hb2
 replace h0:=hJa _ _ _ h0 hb2
 replace hE:=hE.below hb2
 clear hb2
 refine hK.out _ _ ⟨((ah mP 0).trans rfl),((ah mX 0).trans rfl),((ah mX 1).trans rfl),((ah mT 0).trans rfl)⟩ (fun hHeld=>?_)
 clear hK K
 refine dM (by show Act.put _ (some 19) _ = _;simp only [Act.put,List.setIfInBounds_toArray,List.set_cons_zero,List.set_cons_succ,ib,ig];rfl) ?_
 refine bV (i:=9) (N:=some 10) aM ?_
 refine bV (i:=10) (N:=some 20) aM ?_
 refine bV (i:=11) (N:=some 21) aM ?_
 refine bV (i:=12) (N:=some 4) aM ?_
 refine bV (i:=13) (N:=some 5) aM ?_
 refine jS aM ?_
 refine GK ?_
 gi_wp2_with fail
 refine O8 (wpIn_wide.2 ?_)
 replace mT:=ag mT
 replace mP:=ag mP
 replace mX:=ag mX
 replace h0:=hJa _ _ _ h0 (bO (Below.refl _ _))
 replace hE:=hE.below (bO (Below.refl _ _))
 refine iN (n:=14) (S:=fun w'=>w'.cell? ⟨bp,0,none⟩ = some (.pointer (some ⟨b,0,none⟩))∧w'.cell? ⟨bx,2,none⟩ = some (U Z x.f1.f0)∧w'.cell? ⟨bx,3,none⟩ = some (U Z x.f1.f1)∧w'.cell? ⟨b,1,none⟩ = some (U Z s.ny)) (ds:=[]) #[ac,ac,ac,ac,ac,ac,ac,ac,ac,ac,ac,ac,ac,ac] aM rfl rfl ⟨((ah mP 0).trans rfl),((ah mX 2).trans rfl),((ah mX 3).trans rfl),((ah mT 1).trans rfl)⟩ (fun hHeld=>?_)
 generalize hWd:World.drew _ = Wx at*
 clear hWd
 refine bV (i:=1) (N:=some 24) aM ?_
 refine iL (i:=0) (N:=some 23) aM hHeld ?_
 refine iL (i:=2) (N:=some 25) aM hHeld ?_
 refine iL (i:=3) (N:=some 26) aM hHeld ?_
 refine bV (i:=4) (N:=some 27) aM ?_
 refine bV (i:=5) (N:=some 28) aM ?_
 refine bV (i:=6) (N:=some 29) aM ?_
 refine iL (i:=7) (N:=some 30) aM hHeld ?_
 refine iO (i:=8) (N:=some 31) #[ab,ab,ab,ab,ab,ab,ab,ab,ab,ac,ac,ac,ac,ac] rfl rfl aM (by decide) (fun K hK=>?_)
 have pR:=kM Wx (hT.below hE.1)
 refine gJ Try.func136 aM rfl #[.pointer (some ⟨b,0,none⟩),.agg #[U Z x.f1.f0,U Z x.f1.f1],U Z s.ny] (by rfl) rfl rfl aaN ?_
 with_reducible refine (pR).mono ?_
 rintro e W2 ⟨rfl,hb2⟩
 refine ⟨_,rfl,?_⟩
 clear pR
 replace mT:=aU mT hb2
 replace mP:=aU mP hb2
 replace mX:=aU mX hb2
 replace h0:=hJa _ _ _ h0 hb2
 replace hE:=hE.below hb2
 clear hb2
 refine hK.out _ _ ⟨((ah mP 0).trans rfl),((ah mX 2).trans rfl),((ah mX 3).trans rfl),((ah mT 1).trans rfl)⟩ (fun hHeld=>?_)
 clear hK K
 refine dM alI ?_
 refine bV (i:=9) (N:=some 22) aM ?_
 refine bV (i:=10) (N:=some 32) aM ?_
 refine bV (i:=11) (N:=some 33) aM ?_
 refine bV (i:=12) (N:=some 6) aM ?_
 refine bV (i:=13) (N:=some 7) aM ?_
 refine jS aM ?_
 refine GK ?_
 clear mT mP mX kN kM
 gi_wp2
 gi_loopw [8] (fun i wr=>∃ (q:Nat) (pre:List (Fz s)),q≤(k1+1 - k0).toNat∧i = U Z (k0+(q:Int))∧Hid (pre.map Subtype.val = DT s.nx i0 (i1+1 - i0).toNat k0 q 0)∧Env w0 bp bx b x wr∧J pre wr) (fun i _=>(k1+1 - intOf i).toNat)
 case atStart=>exact ⟨0,[],Nat.zero_le _,by simp,Lib.hid (by rw [adO];rfl),hE,h0⟩
 case round =>
  clear hE h0
  obtain ⟨q,pre,hq,rfl,HP,hE,hJs⟩:=hrel
  by_cases hlt:k0+(q:Int)≤k1
  ·gi_wp2
   gi_loopw [9] (fun i wr2=>∃ (j:Nat) (ajP:List (Fz s)),j≤(i1+1 - i0).toNat∧i = U Z (i0+(j:Int))∧Hid (ajP.map Subtype.val = DT s.nx i0 (i1+1 - i0).toNat k0 q j)∧Env w0 bp bx b x wr2∧J ajP wr2) (fun i _=>(i1+1 - intOf i).toNat)
   case atStart=>exact ⟨0,pre,Nat.zero_le _,by simp,HP,hE,hJs⟩
   case round =>
    clear hE hJs
    obtain ⟨j,ajP,hj,rfl,HQ,hE,hJ2⟩:=hrel
    by_cases hjk:i0+(j:Int)≤i1
    ·have hlen:ajP.length < (rz s x).length:=by
      have h1:=VJ (nx:=s.nx) (i0:=i0) (k0:=k0) (show q < (k1+1 - k0).toNat by omega) (show j+1≤(i1+1 - i0).toNat by omega)
      have h2:=h1.length_le
      rw [Ma,← HQ.out,← HAll.out] at h2
      simp at h2
      omega
     have hr:=row_in (ny:=s.ny) (k:=k0+(q:Int)) hnx.1 (by omega) (by omega)
     have hxy:=iI (show 0≤s.nx by omega) hnx.2 (show 0≤s.ny by omega) hny.2
     obtain ⟨fn,tmps,assign,body,hy,hR⟩:=hY ajP ⟨(k0+(q:Int))*s.nx+(i0+(j:Int)),by omega,by omega⟩ _ hJ2 hlen
     dsimp only at hy
     have hE0:=hE
     obtain ⟨hb0,mP,_⟩:=hE0
     obtain ⟨A7,c7,A8,c8,mT,_⟩:=hT.below hb0
     clear hb0
     have cP:=(ah mP 0).trans rfl
     have cT:=(ah mT 0).trans rfl
     clear mT mP
     gi_wp2
     refine hR.mono ?_
     rintro e W3 (⟨rfl,hJ3,hk3⟩|⟨rfl,hJx3⟩)
     ·clear cP cT
      have hE3:=hKp _ _ hk3 hE
      clear hk3 hE
      gi_wp2
      go_roundw
      case rel=>exact ⟨j+1,_,by omega,by simp;omega,Lib.hid (by rw [List.map_append,HQ.out,Ma];rfl),hE3,hJ3⟩
      case measure=>simp [intOf];omega
     ·gi_wp2
      refine bodyPost_ret (results_none rfl _ _ _) rfl ?_
      refine ⟨⟨_,rfl⟩,.inr ⟨_,?_,hJx3⟩⟩
      show List.map Subtype.val _ <+:_
      rw [List.map_append,HQ.out,List.map_singleton,← Ma,HAll.out]
      exact VJ (by omega) (by omega)
    ·obtain rfl:j = (i1+1 - i0).toNat:=by omega
     gi_wp2
     go_roundw
     case rel=>exact ⟨q+1,ajP,by omega,by simp;omega,Lib.hid (by rw [HQ.out,VI,← O7]),hE,hJ2⟩
     case measure=>simp [intOf];omega
  ·obtain rfl:q = (k1+1 - k0).toNat:=by omega
   gi_wp2
   go_end0
   exact ⟨⟨_,rfl⟩,.inl ⟨pre,by unfold alH;rw [HAll.out,HP.out,VI],hJs⟩⟩
end Go.Proofs.Ytmhaiihjfgfaoaa.Gl
end
