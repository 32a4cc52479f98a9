import Derived.Test.YtmhaiihjfgfaoaaGzGliderReaches3
import Derived.Test.YtmhaiihjfgfaoaaGzGliderReaches5
import Derived.Test.YtmhaiihjfgfaoaaGzGliderReaches4
open Go.Value renaming int → U
open Go.IntKind renaming i64 → Z
open Bool renaming true → ab, false → ac
section
namespace Go.Proofs.Ytmhaiihjfgfaoaa.Gl
open Go.RowKit Go.Shelf Go.Proofs.YtmhaiihjfgfaoaaW.PrintWords Go.Proofs.YtmhaiihjfgfaoaaW.PrintLast Go.Proofs.YtmhaiihjfgfaoaaW.PrintMore Go.Proofs.Ytmhaiihjfgfaoaa.Pr Go.Proofs.YtmhaiihjfgfaoaaW.Round
set_option linter.unusedVariables false
set_option linter.unusedSimpArgs false
attribute [local go_sem] eD eF fD fE eG
def lJ (x lo hi:Int):Bool:=decide (lo≤x) && decide (x≤hi)
theorem jK {x lo hi:Int}:lJ x lo hi = true↔lo≤x∧x≤hi:=by unfold lJ;simp
theorem GK (x lo hi:Int) (w:World):Calls Try.prog 74 #[U Z x,U Z lo,U Z hi] w (sI (.bool (lJ x lo hi)) w) :=
 (bR.calls x lo hi (lJ x lo hi) w (by
  unfold bR.f lJ
  by_cases h:x ≥ lo
  ·rw [if_pos h,show decide (lo≤x) = true from decide_eq_true h];simp
  ·rw [if_neg h,show decide (lo≤x) = false from decide_eq_false h];simp)).mono fun _ _ h=>⟨h.1,h.2.below⟩
def Ki (lo hi:Int):Bool:=!(decide (lo > hi) || decide (lo < -1073741824) || decide (hi > 1073741824))
theorem sU {lo hi:Int}:Ki lo hi = true↔lo≤hi∧-1073741824≤lo∧hi≤1073741824:=by
 unfold Ki
 simp only [Bool.not_eq_true',Bool.or_eq_false_iff,decide_eq_false_iff_not]
 omega
theorem aa1 (k:Nat) (lo hi:Int):jO.f (k+2) lo hi = some (if Ki lo hi then 0 else 2):=by
 unfold jO.f dB.f Ki
 simp only [dB.l0,oO]
 by_cases h1:hi < lo
 ·simp [h1]
  try omega
 ·by_cases h2:lo < -1073741824
  ·simp [h1,h2]
   try omega
  ·by_cases h3:1073741824 < hi
   ·simp [h1,h2,h3]
   ·have h3':hi≤1073741824:=by omega
    have h2':-1073741824≤lo:=by omega
    have h1':lo≤hi:=by omega
    simp [h1,h2,h3,wrap64,h3',h2',h1']
def BD (lo hi a b:Int):Bool:=Ki lo hi && decide (a≤lo) && decide (hi≤b)
theorem XJ (k:Nat) (lo hi a b:Int):bW.f (k+2) lo hi a b = some (BD lo hi a b):=by
 unfold bW.f BD
 rw [aa1,Option.bind_some]
 cases Ki lo hi with
 |false=>rfl
 |true =>
  by_cases h:lo ≥ a
  ·rw [if_pos rfl,if_pos rfl,if_pos h,show decide (a≤lo) = true from decide_eq_true h];simp
  ·rw [if_pos rfl,if_pos rfl,if_neg h,show decide (a≤lo) = false from decide_eq_false h];simp
theorem ae0 (lo hi a b:Int) (w:World):Calls Try.prog 77 #[.agg #[U Z lo,U Z hi],U Z a,U Z b] w (sI (.bool (BD lo hi a b)) w):=bW.calls 2 _ _ _ _ _ w (XJ 0 lo hi a b)
theorem Sv {α:Type} {p:α→Bool} {l:List α} {k:Nat} {x:α} (hk:l[k]? = some x) (h0:(l.take k).any p = false) (hx:p x = true):l.findIdx? p = some k:=by
 have hlt:=(List.getElem?_eq_some_iff.1 hk).1
 rw [List.findIdx?_eq_some_iff_getElem]
 refine ⟨hlt,by rw [(List.getElem?_eq_some_iff.1 hk).2];exact hx,fun j hj=>?_⟩
 have:=List.any_eq_false.1 h0 l[j] (by rw [List.mem_take_iff_getElem];exact ⟨j,by omega,rfl⟩)
 simpa using this
def Sw {α:Type} (p:α→Bool) (l:List α):Int:=match l.findIdx? p with|none=>-1|some i=>i
theorem Zo {α:Type} (p:α→Bool) (l:List α):(Sw p l < 0∧l.any p = false)∨(0≤Sw p l∧l.any p = true):=by
 unfold Sw
 cases h:l.findIdx? p with
 |none =>
  refine .inl ⟨by decide,?_⟩
  rw [List.any_eq_false]
  intro x hx
  have:=List.findIdx?_eq_none_iff.1 h x hx
  simp [this]
 |some i =>
  obtain ⟨h1,h2,_⟩:=List.findIdx?_eq_some_iff_getElem.1 h
  exact .inr ⟨by dsimp only;omega,List.any_eq_true.2 ⟨_,List.getElem_mem h1,h2⟩⟩
section
variable {P:Program} {Q:Exit→Act→World→Prop} {ops:Array Oper}
end
set_option maxRecDepth 100000 in
set_option maxHeartbeats 2000000 in
theorem agS (gs:Nat) (lb:Array Value) (g:oV→Bool) (A:Option Addr) (c:Nat) (l:List oV) (w:World) (hC:Kd.C DD w A l.length l) (hc:l.length≤c)
 (egs:∀ args w,(callFunc gs args).run Try.prog w = .ok (.enter gs args) w)
 (hg:∀ x W,Below w.heap.size w W→Calls Try.prog gs (#[.agg #[U Z x.f0.f0,U Z x.f0.f1,U Z x.f1.f0,U Z x.f1.f1]]++lb) W (sI (.bool (g x)) W)):
 Calls Try.prog 121 #[.slice A l.length c,.func (.func gs) #[] lb] w (sI (U Z (Sw g l)) w):=by
 have alc:=Try.underlying40
 have oo:=Try.underlying27
 have hb:=hC.2.1
 have HI:Hid (Sw g l = match l.findIdx? g with|none=>-1|some i=>(i:Int)):=Lib.hid rfl
 go_enter Try.func121,Try.ntmps121
 go_wp2
 go_loopw [8] (fun i wr=>∃ (k:Nat),k≤l.length∧i = U Z k∧Hid ((l.take k).any g = false)∧Below w.heap.size w wr) (fun i _=>l.length - (intOf i).toNat)
 case atStart=>exact ⟨0,Nat.zero_le _,rfl,Lib.hid (by simp),Below.refl _ _⟩
 case round =>
  obtain ⟨k,hk,rfl,HA,mB⟩:=hrel
  by_cases hlt:k < l.length
  ·obtain ⟨ad,rfl,hx0,hx1,hx2,hx3⟩:=FE hC k (by omega) (by omega)
   simp only [Int.toNat_natCast] at hx0 hx1 hx2 hx3
   replace hx0:=(mB.cell (World.block_lt_of_cell? w _ hx0)).trans hx0
   replace hx1:=(mB.cell (World.block_lt_of_cell? w _ hx1)).trans hx1
   replace hx2:=(mB.cell (World.block_lt_of_cell? w _ hx2)).trans hx2
   replace hx3:=(mB.cell (World.block_lt_of_cell? w _ hx3)).trans hx3
   have hlk:l[k]? = some (bu l (k:Int)):=by simp [bu,List.getD_eq_getElem?_getD,hlt]
   have htk:l.take (k+1) = l.take k++[bu l (k:Int)]:=by rw [List.take_add_one,hlk];rfl
   generalize bu l (k:Int) = x at*
   have HT:=Lib.hid htk
   have HK:=Lib.hid hlk
   clear htk hlk
   go_wp2_with fail
   have hcon:=hg x wr mB
   (with_reducible refine hcon.mono ?_)
   clear hcon hx0 hx1 hx2 hx3
   rintro e W1 ⟨rfl,hb1⟩
   replace mB:=bO mB hb1
   clear hb1
   cases hbx:g x with
   |true =>
    have HE:=Lib.hid (HI.out.trans (by rw [Sv HK.out HA.out hbx]))
    clear hbx
    go_wp2
    go_ret
    exact ⟨by rw [HE.out];rfl,mB⟩
   |false =>
    have HB:=Lib.hid hbx
    clear hbx
    go_wp2
    go_roundw
    case rel=>exact ⟨k+1,by omega,by simp,Lib.hid (by rw [HT.out,List.any_append,HA.out,List.any_cons,HB.out];rfl),mB⟩
    case measure=>simp [intOf];omega
  ·obtain rfl:k = l.length:=by omega
   rw [List.take_length] at HA
   have hn:l.findIdx? g = none:=by
    rw [List.findIdx?_eq_none_iff]
    intro x hx
    have:=List.any_eq_false.1 HA.out x hx
    simpa using this
   have HE:=Lib.hid (HI.out.trans (by rw [hn]))
   clear hn
   go_wp2
   go_ret
   exact ⟨by rw [HE.out];rfl,mB⟩
set_option maxHeartbeats 1000000 in
theorem aa2 (gs:Nat) (lb:Array Value) (g:oV→Bool) (A:Option Addr) (c:Nat) (l:List oV) (w:World) (hC:Kd.C DD w A l.length l) (hc:l.length≤c)
 (egs:∀ args w,(callFunc gs args).run Try.prog w = .ok (.enter gs args) w)
 (hg:∀ x W,Below w.heap.size w W→Calls Try.prog gs (#[.agg #[U Z x.f0.f0,U Z x.f0.f1,U Z x.f1.f0,U Z x.f1.f1]]++lb) W (sI (.bool (g x)) W)):
 Calls Try.prog 75 #[.slice A l.length c,.func (.func gs) #[] lb] w (sI (.bool (l.any g)) w):=by
 have hcon:=agS gs lb g A c l w hC hc egs hg
 clear hg egs
 go_enter Try.func75,Try.ntmps75
 go_wp2_with fail
 (with_reducible refine hcon.mono ?_)
 clear hcon
 rintro e W1 ⟨rfl,mB⟩
 rcases Zo g l with ⟨h1,h2⟩|⟨h1,h2⟩
 ·have HA:=Lib.hid h2
  have hd:decide (0≤Sw g l) = false:=decide_eq_false (by omega)
  clear h1 h2
  go_wp2
  go_ret
  exact ⟨by rw [HA.out];rfl,mB⟩
 ·have HA:=Lib.hid h2
  have hd:decide (0≤Sw g l) = true:=decide_eq_true (by omega)
  clear h1 h2
  go_wp2
  go_ret
  exact ⟨by rw [HA.out];rfl,mB⟩
set_option maxRecDepth 100000 in
set_option maxHeartbeats 2000000 in
theorem agT (gs:Nat) (lb:Array Value) (g:dO→Bool) (A:Option Addr) (c:Nat) (l:List dO) (w:World) (hC:Kd.C Iy w A l.length l) (hc:l.length≤c)
 (egs:∀ args w,(callFunc gs args).run Try.prog w = .ok (.enter gs args) w)
 (hg:∀ x W,Below w.heap.size w W→Calls Try.prog gs (#[.agg #[U Z x.f0.f0,U Z x.f0.f1,U Z x.f1.f0,U Z x.f1.f1]]++lb) W (sI (.bool (g x)) W)):
 Calls Try.prog 137 #[.slice A l.length c,.func (.func gs) #[] lb] w (sI (U Z (Sw g l)) w):=by
 have oP:=Try.underlying31
 have oo:=Try.underlying27
 have hb:=hC.2.1
 have HI:Hid (Sw g l = match l.findIdx? g with|none=>-1|some i=>(i:Int)):=Lib.hid rfl
 go_enter Try.func137,Try.ntmps137
 go_wp2
 go_loopw [8] (fun i wr=>∃ (k:Nat),k≤l.length∧i = U Z k∧Hid ((l.take k).any g = false)∧Below w.heap.size w wr) (fun i _=>l.length - (intOf i).toNat)
 case atStart=>exact ⟨0,Nat.zero_le _,rfl,Lib.hid (by simp),Below.refl _ _⟩
 case round =>
  obtain ⟨k,hk,rfl,HA,mB⟩:=hrel
  by_cases hlt:k < l.length
  ·obtain ⟨ad,rfl,hx0,hx1,hx2,hx3⟩:=uz hC k (by omega) (by omega)
   simp only [Int.toNat_natCast] at hx0 hx1 hx2 hx3
   replace hx0:=(mB.cell (World.block_lt_of_cell? w _ hx0)).trans hx0
   replace hx1:=(mB.cell (World.block_lt_of_cell? w _ hx1)).trans hx1
   replace hx2:=(mB.cell (World.block_lt_of_cell? w _ hx2)).trans hx2
   replace hx3:=(mB.cell (World.block_lt_of_cell? w _ hx3)).trans hx3
   have hlk:l[k]? = some (bq l (k:Int)):=by simp [bq,List.getD_eq_getElem?_getD,hlt]
   have htk:l.take (k+1) = l.take k++[bq l (k:Int)]:=by rw [List.take_add_one,hlk];rfl
   generalize bq l (k:Int) = x at*
   have HT:=Lib.hid htk
   have HK:=Lib.hid hlk
   clear htk hlk
   go_wp2_with fail
   have hcon:=hg x wr mB
   (with_reducible refine hcon.mono ?_)
   clear hcon hx0 hx1 hx2 hx3
   rintro e W1 ⟨rfl,hb1⟩
   replace mB:=bO mB hb1
   clear hb1
   cases hbx:g x with
   |true =>
    have HE:=Lib.hid (HI.out.trans (by rw [Sv HK.out HA.out hbx]))
    clear hbx
    go_wp2
    go_ret
    exact ⟨by rw [HE.out];rfl,mB⟩
   |false =>
    have HB:=Lib.hid hbx
    clear hbx
    go_wp2
    go_roundw
    case rel=>exact ⟨k+1,by omega,by simp,Lib.hid (by rw [HT.out,List.any_append,HA.out,List.any_cons,HB.out];rfl),mB⟩
    case measure=>simp [intOf];omega
  ·obtain rfl:k = l.length:=by omega
   rw [List.take_length] at HA
   have hn:l.findIdx? g = none:=by
    rw [List.findIdx?_eq_none_iff]
    intro x hx
    have:=List.any_eq_false.1 HA.out x hx
    simpa using this
   have HE:=Lib.hid (HI.out.trans (by rw [hn]))
   clear hn
   go_wp2
   go_ret
   exact ⟨by rw [HE.out];rfl,mB⟩
set_option maxHeartbeats 1000000 in
theorem aaN (gs:Nat) (lb:Array Value) (g:dO→Bool) (A:Option Addr) (c:Nat) (l:List dO) (w:World) (hC:Kd.C Iy w A l.length l) (hc:l.length≤c)
 (egs:∀ args w,(callFunc gs args).run Try.prog w = .ok (.enter gs args) w)
 (hg:∀ x W,Below w.heap.size w W→Calls Try.prog gs (#[.agg #[U Z x.f0.f0,U Z x.f0.f1,U Z x.f1.f0,U Z x.f1.f1]]++lb) W (sI (.bool (g x)) W)):
 Calls Try.prog 125 #[.slice A l.length c,.func (.func gs) #[] lb] w (sI (.bool (l.any g)) w):=by
 have hcon:=agT gs lb g A c l w hC hc egs hg
 clear hg egs
 go_enter Try.func125,Try.ntmps125
 go_wp2_with fail
 (with_reducible refine hcon.mono ?_)
 clear hcon
 rintro e W1 ⟨rfl,mB⟩
 rcases Zo g l with ⟨h1,h2⟩|⟨h1,h2⟩
 ·have HA:=Lib.hid h2
  have hd:decide (0≤Sw g l) = false:=decide_eq_false (by omega)
  clear h1 h2
  go_wp2
  go_ret
  exact ⟨by rw [HA.out];rfl,mB⟩
 ·have HA:=Lib.hid h2
  have hd:decide (0≤Sw g l) = true:=decide_eq_true (by omega)
  clear h1 h2
  go_wp2
  go_ret
  exact ⟨by rw [HA.out];rfl,mB⟩
def SL (most:Int) (c:oV):Bool:=!BD c.f0.f0 c.f0.f1 (-most) most || !BD c.f1.f0 c.f1.f1 (-most) most
set_option maxRecDepth 100000 in
set_option maxHeartbeats 2000000 in
theorem asg (g1:Nat) (s:j3) (A7 A8:Option Addr) (c7 c8:Nat) (c:oV) (w:World) (hm0:0≤s.most) (hm1:s.most≤5000) (hB:eT w g1 #[U Z s.nx,U Z s.ny,U Z s.cell,U Z s.slot,U Z s.slots,U Z s.layers,U Z s.most,.slice A7 s.shores.length c7,.slice A8 s.currents.length c8] 25):
 Calls Try.prog 76 #[.agg #[U Z c.f0.f0,U Z c.f0.f1,U Z c.f1.f0,U Z c.f1.f1],.pointer (some ⟨g1,0,none⟩)] w (sI (.bool (SL s.most c)) w):=by
 have alc:=Try.underlying40
 have oo:=Try.underlying27
 have HB:Hid (SL s.most c = (!BD c.f0.f0 c.f0.f1 (-s.most) s.most || !BD c.f1.f0 c.f1.f1 (-s.most) s.most)):=Lib.hid rfl
 have c6:∀ o_,(w.alloc o_).cell? ⟨g1,6,none⟩ = some (U Z s.most):=fun o_=>(af (ae hB o_) 6).trans rfl
 go_enter Try.func76,Try.ntmps76
 go_wp2_with fail
 clear c6
 have m1:=hB
 clear hB
 have aPO:=bP m1
 have m2:eT (w.alloc (.cells #[U Z c.f0.f0,U Z c.f0.f1,U Z c.f1.f0,U Z c.f1.f1] 40)) (w.heap.size) #[U Z c.f0.f0,U Z c.f0.f1,U Z c.f1.f0,U Z c.f1.f1] 40:=(by have h_:=eP w (.cells #[U Z c.f0.f0,U Z c.f0.f1,U Z c.f1.f0,U Z c.f1.f1] 40);first|exact h_|(simp only [World.size_alloc] at h_;exact h_))
 replace m1:eT (w.alloc (.cells #[U Z c.f0.f0,U Z c.f0.f1,U Z c.f1.f0,U Z c.f1.f1] 40)) g1 #[U Z s.nx,U Z s.ny,U Z s.cell,U Z s.slot,U Z s.slots,U Z s.layers,U Z s.most,.slice A7 s.shores.length c7,.slice A8 s.currents.length c8] 25:=(ae m1 _)
 have mB:Below w.heap.size w (w.alloc (.cells #[U Z c.f0.f0,U Z c.f0.f1,U Z c.f1.f0,U Z c.f1.f1] 40)):=(aT (Below.refl w.heap.size w) _)
 have jS:w.heap.size≤w.heap.size:=Nat.le_refl _
 generalize qL:(w.alloc (.cells #[U Z c.f0.f0,U Z c.f0.f1,U Z c.f1.f0,U Z c.f1.f1] 40)) = W1 at m1 m2 mB ⊢
 clear qL
 generalize hg2:w.heap.size = g2 at m2 ⊢
 have awE:g1≠g2:=by omega
 have aPP:g2≠g1:=awE.symm
 have hG2:w.heap.size≤g2:=by omega
 clear jS aPO
 try clear hg2
 have wG:w.heap.size≤W1.heap.size:=mB.size
 have hcon:=ae0 c.f0.f0 c.f0.f1 (-s.most) s.most W1
 (with_reducible refine hcon.mono ?_)
 clear hcon
 rintro e W2 ⟨rfl,hb⟩
 replace m1:=av m1 hb
 replace m2:=av m2 hb
 replace mB:=bO mB hb
 clear hb
 have sO:w.heap.size≤W2.heap.size:=mB.size
 cases h0:BD c.f0.f0 c.f0.f1 (-s.most) s.most with
 |false =>
  have HR:=Lib.hid (HB.out.trans (by rw [h0];rfl:_ = true))
  clear h0 HB
  go_wp2
  go_ret
  exact ⟨R3,mB⟩
 |true =>
  have H0:=Lib.hid h0
  clear h0
  obtain ⟨auP,auQ,auR,auS⟩:=nV m2
  have c6:=(af m1 6).trans rfl
  go_wp2_with fail
  clear auP auQ auR auS c6
  have hcon:=ae0 c.f1.f0 c.f1.f1 (-s.most) s.most W2
  (with_reducible refine hcon.mono ?_)
  clear hcon
  rintro e W3 ⟨rfl,hb⟩
  replace m1:=av m1 hb
  replace m2:=av m2 hb
  replace mB:=bO mB hb
  clear hb
  have Ha:w.heap.size≤W3.heap.size:=mB.size
  cases h1:BD c.f1.f0 c.f1.f1 (-s.most) s.most with
  |false =>
   have HR:=Lib.hid (HB.out.trans (by rw [H0.out,h1];rfl:_ = true))
   clear h1 HB
   go_wp2
   go_ret
   exact ⟨R3,mB⟩
  |true =>
   have HR:=Lib.hid (HB.out.trans (by rw [H0.out,h1];rfl:_ = false))
   clear h1 HB
   go_wp2
   go_ret
   exact ⟨R3,mB⟩
def XK (s:j3):Bool:=lJ s.nx 1 12 && lJ s.ny 1 12 && lJ s.cell 100 65536 && lJ s.slot 1 1048576 && lJ s.slots 1 16 && lJ s.layers 1 3 && lJ s.most 0 5000 && decide ((s.shores.length:Int) = s.nx*s.ny) && decide ((s.currents.length:Int) = s.slots*s.layers*(s.nx*s.ny)) && !s.currents.any (SL s.most)
def zQ (s:j3):Int:=if XK s then 0 else 2
set_option maxRecDepth 100000 in
set_option maxHeartbeats 8000000 in
theorem abe (s:j3) (A7 A8:Option Addr) (c7 c8:Nat) (w:World) (h7:s.shores.length≤c7) (TG:Kd.C Kd.bool w A7 s.shores.length s.shores) (h8:s.currents.length≤c8) (PM:Kd.C DD w A8 s.currents.length s.currents):
 Calls Try.prog 25 #[.agg #[U Z s.nx,U Z s.ny,U Z s.cell,U Z s.slot,U Z s.slots,U Z s.layers,U Z s.most,.slice A7 s.shores.length c7,.slice A8 s.currents.length c8]] w (sI (U Z (zQ s)) w):=by
 have zR:=Try.underlying25
 have hb7:=TG.2.1
 have hb8:=PM.2.1
 have HE:Hid (zQ s = if XK s then 0 else 2):=Lib.hid rfl
 have HB:Hid (XK s = (lJ s.nx 1 12 && lJ s.ny 1 12 && lJ s.cell 100 65536 && lJ s.slot 1 1048576 && lJ s.slots 1 16 && lJ s.layers 1 3 && lJ s.most 0 5000 && decide ((s.shores.length:Int) = s.nx*s.ny) && decide ((s.currents.length:Int) = s.slots*s.layers*(s.nx*s.ny)) && !s.currents.any (SL s.most))):=Lib.hid rfl
 go_enter Try.func25,Try.ntmps25
 go_wp2_with fail
 have m1:eT (w.alloc (.cells #[U Z s.nx,U Z s.ny,U Z s.cell,U Z s.slot,U Z s.slots,U Z s.layers,U Z s.most,.slice A7 s.shores.length c7,.slice A8 s.currents.length c8] 25)) (w.heap.size) #[U Z s.nx,U Z s.ny,U Z s.cell,U Z s.slot,U Z s.slots,U Z s.layers,U Z s.most,.slice A7 s.shores.length c7,.slice A8 s.currents.length c8] 25:=UN
 have mB:Below w.heap.size w (w.alloc (.cells #[U Z s.nx,U Z s.ny,U Z s.cell,U Z s.slot,U Z s.slots,U Z s.layers,U Z s.most,.slice A7 s.shores.length c7,.slice A8 s.currents.length c8] 25)):=(aT (Below.refl w.heap.size w) _)
 have jS:w.heap.size≤w.heap.size:=Nat.le_refl _
 generalize qL:(w.alloc (.cells #[U Z s.nx,U Z s.ny,U Z s.cell,U Z s.slot,U Z s.slots,U Z s.layers,U Z s.most,.slice A7 s.shores.length c7,.slice A8 s.currents.length c8] 25)) = W0 at m1 mB ⊢
 clear qL
 generalize hg1:w.heap.size = g1 at m1 ⊢
 have hG1:w.heap.size≤g1:=by omega
 clear jS
 try clear hg1
 have BQ:w.heap.size≤W0.heap.size:=mB.size
 have hcon:=GK s.nx 1 12 W0
 (with_reducible refine hcon.mono ?_)
 clear hcon
 rintro e W1 ⟨rfl,hb⟩
 replace m1:=av m1 hb
 replace mB:=bO mB hb
 clear hb
 have wG:w.heap.size≤W1.heap.size:=mB.size
 cases h_:lJ s.nx 1 12 with
 |false =>
  have HZ:Hid (zQ s = 2):=Lib.hid (by rw [HE.out,HB.out,h_];simp)
  clear h_ HE HB
  go_wp2
  go_ret
  exact ⟨o6,mB⟩
 |true =>
  have b0:=jK.1 h_
  have H0:=Lib.hid h_
  clear h_
  obtain ⟨Ib,Ic,Ie,Ig,KT,KU,KV,KW,KX⟩:=BG m1
  go_wp2_with fail
  clear Ib Ic Ie Ig KT KU KV KW KX
  have hcon:=GK s.ny 1 12 W1
  (with_reducible refine hcon.mono ?_)
  clear hcon
  rintro e W2 ⟨rfl,hb⟩
  replace m1:=av m1 hb
  replace mB:=bO mB hb
  clear hb
  have sO:w.heap.size≤W2.heap.size:=mB.size
  cases h_:lJ s.ny 1 12 with
  |false =>
   have HZ:Hid (zQ s = 2):=Lib.hid (by rw [HE.out,HB.out,H0.out,h_];simp)
   clear h_ HE HB
   go_wp2
   go_ret
   exact ⟨o6,mB⟩
  |true =>
   have b1:=jK.1 h_
   have H1:=Lib.hid h_
   clear h_
   obtain ⟨Ib,Ic,Ie,Ig,KT,KU,KV,KW,KX⟩:=BG m1
   go_wp2_with fail
   clear Ib Ic Ie Ig KT KU KV KW KX
   have hcon:=GK s.cell 100 65536 W2
   (with_reducible refine hcon.mono ?_)
   clear hcon
   rintro e W3 ⟨rfl,hb⟩
   replace m1:=av m1 hb
   replace mB:=bO mB hb
   clear hb
   have Ha:w.heap.size≤W3.heap.size:=mB.size
   cases h_:lJ s.cell 100 65536 with
   |false =>
    have HZ:Hid (zQ s = 2):=Lib.hid (by rw [HE.out,HB.out,H0.out,H1.out,h_];simp)
    clear h_ HE HB
    go_wp2
    go_ret
    exact ⟨o6,mB⟩
   |true =>
    have b2:=jK.1 h_
    have H2:=Lib.hid h_
    clear h_
    obtain ⟨Ib,Ic,Ie,Ig,KT,KU,KV,KW,KX⟩:=BG m1
    go_wp2_with fail
    clear Ib Ic Ie Ig KT KU KV KW KX
    have hcon:=GK s.slot 1 1048576 W3
    (with_reducible refine hcon.mono ?_)
    clear hcon
    rintro e W4 ⟨rfl,hb⟩
    replace m1:=av m1 hb
    replace mB:=bO mB hb
    clear hb
    have O3:w.heap.size≤W4.heap.size:=mB.size
    cases h_:lJ s.slot 1 1048576 with
    |false =>
     have HZ:Hid (zQ s = 2):=Lib.hid (by rw [HE.out,HB.out,H0.out,H1.out,H2.out,h_];simp)
     clear h_ HE HB
     go_wp2
     go_ret
     exact ⟨o6,mB⟩
    |true =>
     have b3:=jK.1 h_
     have H3:=Lib.hid h_
     clear h_
     obtain ⟨Ib,Ic,Ie,Ig,KT,KU,KV,KW,KX⟩:=BG m1
     go_wp2_with fail
     clear Ib Ic Ie Ig KT KU KV KW KX
     have hcon:=GK s.slots 1 16 W4
     (with_reducible refine hcon.mono ?_)
     clear hcon
     rintro e W5 ⟨rfl,hb⟩
     replace m1:=av m1 hb
     replace mB:=bO mB hb
     clear hb
     have Rj:w.heap.size≤W5.heap.size:=mB.size
     cases h_:lJ s.slots 1 16 with
     |false =>
      have HZ:Hid (zQ s = 2):=Lib.hid (by rw [HE.out,HB.out,H0.out,H1.out,H2.out,H3.out,h_];simp)
      clear h_ HE HB
      go_wp2
      go_ret
      exact ⟨o6,mB⟩
     |true =>
      have b4:=jK.1 h_
      have H4:=Lib.hid h_
      clear h_
      obtain ⟨Ib,Ic,Ie,Ig,KT,KU,KV,KW,KX⟩:=BG m1
      go_wp2_with fail
      clear Ib Ic Ie Ig KT KU KV KW KX
      have hcon:=GK s.layers 1 3 W5
      (with_reducible refine hcon.mono ?_)
      clear hcon
      rintro e W6 ⟨rfl,hb⟩
      replace m1:=av m1 hb
      replace mB:=bO mB hb
      clear hb
      have aTc:w.heap.size≤W6.heap.size:=mB.size
      cases h_:lJ s.layers 1 3 with
      |false =>
       have HZ:Hid (zQ s = 2):=Lib.hid (by rw [HE.out,HB.out,H0.out,H1.out,H2.out,H3.out,H4.out,h_];simp)
       clear h_ HE HB
       go_wp2
       go_ret
       exact ⟨o6,mB⟩
      |true =>
       have b5:=jK.1 h_
       have H5:=Lib.hid h_
       clear h_
       obtain ⟨Ib,Ic,Ie,Ig,KT,KU,KV,KW,KX⟩:=BG m1
       go_wp2_with fail
       clear Ib Ic Ie Ig KT KU KV KW KX
       have hcon:=GK s.most 0 5000 W6
       (with_reducible refine hcon.mono ?_)
       clear hcon
       rintro e W7 ⟨rfl,hb⟩
       replace m1:=av m1 hb
       replace mB:=bO mB hb
       clear hb
       have aTd:w.heap.size≤W7.heap.size:=mB.size
       cases h_:lJ s.most 0 5000 with
       |false =>
        have HZ:Hid (zQ s = 2):=Lib.hid (by rw [HE.out,HB.out,H0.out,H1.out,H2.out,H3.out,H4.out,H5.out,h_];simp)
        clear h_ HE HB
        go_wp2
        go_ret
        exact ⟨o6,mB⟩
       |true =>
        have b6:=jK.1 h_
        have H6:=Lib.hid h_
        clear h_
        have p1:=iF (show 0≤s.nx by omega) b0.2 (show 0≤s.ny by omega) b1.2
        have p2:=iF (show 0≤s.slots by omega) b4.2 (show 0≤s.layers by omega) b5.2
        have p3:=iF p2.1 p2.2 p1.1 p1.2
        have e1:wrap64 (s.nx*s.ny) = s.nx*s.ny:=by unfold wrap64;omega
        have HN:=Lib.hid e1
        try rw [e1]
        clear e1
        by_cases q7:(s.shores.length:Int) = s.nx*s.ny
        case neg =>
         have h_:decide ((s.shores.length:Int) = s.nx*s.ny) = false:=decide_eq_false q7
         have e_:((s.shores.length:Int) == s.nx*s.ny) = false:=beq_eq_false_iff_ne.2 q7
         have e2_:((s.shores.length:Int) != s.nx*s.ny) = true:=by rw [bne,e_];rfl
         clear q7
         obtain ⟨Ib,Ic,Ie,Ig,KT,KU,KV,KW,KX⟩:=BG m1
         have HZ:Hid (zQ s = 2):=Lib.hid (by rw [HE.out,HB.out,H0.out,H1.out,H2.out,H3.out,H4.out,H5.out,H6.out,h_];simp)
         clear h_ HE HB
         go_wp2
         go_ret
         exact ⟨o6,mB⟩
        case pos =>
         have h_:decide ((s.shores.length:Int) = s.nx*s.ny) = true:=decide_eq_true q7
         have H7:=Lib.hid h_
         have f7:((s.shores.length:Int) == s.nx*s.ny) = true:=beq_iff_eq.2 q7
         have g7:((s.shores.length:Int) != s.nx*s.ny) = false:=by rw [bne,f7];rfl
         clear h_ q7
         by_cases q8:(s.currents.length:Int) = s.slots*s.layers*(s.nx*s.ny)
         case neg =>
          have h_:decide ((s.currents.length:Int) = s.slots*s.layers*(s.nx*s.ny)) = false:=decide_eq_false q8
          have e_:((s.currents.length:Int) == s.slots*s.layers*(s.nx*s.ny)) = false:=beq_eq_false_iff_ne.2 q8
          have e2_:((s.currents.length:Int) != s.slots*s.layers*(s.nx*s.ny)) = true:=by rw [bne,e_];rfl
          clear q8
          obtain ⟨Ib,Ic,Ie,Ig,KT,KU,KV,KW,KX⟩:=BG m1
          have HZ:Hid (zQ s = 2):=Lib.hid (by rw [HE.out,HB.out,H0.out,H1.out,H2.out,H3.out,H4.out,H5.out,H6.out,H7.out,h_];simp)
          clear h_ HE HB
          go_wp2
          go_ret
          exact ⟨o6,mB⟩
         case pos =>
          have h_:decide ((s.currents.length:Int) = s.slots*s.layers*(s.nx*s.ny)) = true:=decide_eq_true q8
          have H8:=Lib.hid h_
          have f8:((s.currents.length:Int) == s.slots*s.layers*(s.nx*s.ny)) = true:=beq_iff_eq.2 q8
          have g8:((s.currents.length:Int) != s.slots*s.layers*(s.nx*s.ny)) = false:=by rw [bne,f8];rfl
          clear h_ q8
          obtain ⟨Ib,Ic,Ie,Ig,KT,KU,KV,KW,KX⟩:=BG m1
          go_wp2_with fail
          clear Ib Ic Ie Ig KT KU KV KW KX
          have hcon:=aa2 76 #[.pointer (some ⟨g1,0,none⟩)] (SL s.most) A8 c8 s.currents W7 (Kd.bz PM mB) h8 (enters_of Try.func76 aY rfl) (fun x W hW=>asg g1 s A7 A8 c7 c8 x W b6.1 b6.2 (av m1 hW))
          (with_reducible refine hcon.mono ?_)
          clear hcon
          rintro e W8 ⟨rfl,hb⟩
          replace m1:=av m1 hb
          replace mB:=bO mB hb
          clear hb
          have aTe:w.heap.size≤W8.heap.size:=mB.size
          cases h_:s.currents.any (SL s.most) with
          |true =>
           have HZ:Hid (zQ s = 2):=Lib.hid (by rw [HE.out,HB.out,H0.out,H1.out,H2.out,H3.out,H4.out,H5.out,H6.out,H7.out,H8.out,h_];simp)
           clear h_ HE HB
           go_wp2
           go_ret
           exact ⟨o6,mB⟩
          |false =>
           have HZ:Hid (zQ s = 0):=Lib.hid (by rw [HE.out,HB.out,H0.out,H1.out,H2.out,H3.out,H4.out,H5.out,H6.out,H7.out,H8.out,h_];simp)
           clear h_ HE HB
           go_wp2
           go_ret
           exact ⟨o6,mB⟩
end Go.Proofs.Ytmhaiihjfgfaoaa.Gl
end
section
namespace Go.Proofs.Ytmhaiihjfgfaoaa.Gl
open Go.RowKit Go.Shelf Go.Proofs.YtmhaiihjfgfaoaaW.PrintWords Go.Proofs.YtmhaiihjfgfaoaaW.PrintLast Go.Proofs.YtmhaiihjfgfaoaaW.PrintMore Go.Proofs.Ytmhaiihjfgfaoaa.Pr Go.Proofs.YtmhaiihjfgfaoaaW.Round
set_option linter.unusedVariables false
set_option linter.unusedSimpArgs false
attribute [local go_sem] eD eF fD fE eG
def Hy (x:Int):Int:=x / 1000000
def Xw (x:Int):Int:=-((-x) / 1000000)
def oZ (dive:Int) (a:lu) (speed:Int) (u:lu):lu:=⟨a.f0+Hy ((speed+1000*u.f0)*dive),a.f1+Xw ((speed+1000*u.f1)*dive)⟩
theorem lV {a b m n:Int} (h0:-m≤a) (h1:a≤m) (h2:0≤b) (h3:b≤n) (hm:0≤m):-(m*n)≤a*b∧a*b≤m*n:=by
 have k1:=Int.mul_le_mul_of_nonneg_right h1 h2
 have k2:=Int.mul_le_mul_of_nonneg_left h3 hm
 have k3:=Int.mul_le_mul_of_nonneg_right h0 h2
 rw [Int.neg_mul] at k3
 omega
theorem tdm (X:Int):X = 1000000*Int.tdiv X 1000000+Int.tmod X 1000000∧(0≤X→0≤Int.tmod X 1000000∧Int.tmod X 1000000 < 1000000)∧(X < 0→-1000000 < Int.tmod X 1000000∧Int.tmod X 1000000≤0):=by
 refine ⟨(Int.mul_tdiv_add_tmod X 1000000).symm,fun h=>?_,fun h=>?_⟩
 ·rw [Int.tmod_eq_emod_of_nonneg h]
  omega
 ·have e:X = -(-X):=by omega
  rw [e,Int.neg_tmod,Int.tmod_eq_emod_of_nonneg (show 0≤-X by omega)]
  omega
theorem akd {a b c d:Int} (h:a = c) (h2:b = d):Ending.returned (.agg #[U Z a,U Z b]) = Ending.returned (.agg #[U Z c,U Z d]):=by rw [h,h2]
set_option maxRecDepth 100000 in
set_option maxHeartbeats 4000000 in
theorem Tz (b:Nat) (s:j3) (v:nz) (a:lu) (speed:Int) (u:lu) (w:World) (hT:jo w b s v) (hV:wO v) (ha0:-1099511627776≤a.f0∧a.f0≤1099511627776) (ha1:-1099511627776≤a.f1∧a.f1≤1099511627776) (hs0:-5000000≤speed∧speed≤5000000) (hu0:-5000≤u.f0∧u.f0≤5000) (hu1:-5000≤u.f1∧u.f1≤5000):
 Calls Try.prog 131 #[.pointer (some ⟨b,0,none⟩),.agg #[U Z a.f0,U Z a.f1],U Z speed,.agg #[U Z u.f0,U Z u.f1]] w (sI (.agg #[U Z (oZ v.dive a speed u).f0,U Z (oZ v.dive a speed u).f1]) w):=by
 have oo:=Try.underlying27
 obtain ⟨A7,c7,A8,c8,hB,_⟩:=hT
 have hd:=hV.dive
 have m0:=lV (a:=speed+1000*u.f0) (b:=v.dive) (m:=10000000) (n:=131072) (by omega) (by omega) (by omega) (by omega) (by omega)
 have m1:=lV (a:=speed+1000*u.f1) (b:=v.dive) (m:=10000000) (n:=131072) (by omega) (by omega) (by omega) (by omega) (by omega)
 clear hV
 have HR:Hid (oZ v.dive a speed u = ⟨a.f0+Hy ((speed+1000*u.f0)*v.dive),a.f1+Xw ((speed+1000*u.f1)*v.dive)⟩):=Lib.hid rfl
 go_enter Try.func131,Try.ntmps131
 go_wp2_with fail
 have mT:=hB
 clear hB
 have wP:=bP mT
 have m5:eT (((w.alloc (.cells #[U Z a.f0,U Z a.f1] 27)).alloc (.cells #[U Z u.f0,U Z u.f1] 27)).alloc (.cells #[U Z 0,U Z 0] 27)) (w.heap.size) #[U Z a.f0,U Z a.f1] 27:=(ae (ae aEr _) _)
 have m7:eT (((w.alloc (.cells #[U Z a.f0,U Z a.f1] 27)).alloc (.cells #[U Z u.f0,U Z u.f1] 27)).alloc (.cells #[U Z 0,U Z 0] 27)) (w.heap.size+1) #[U Z u.f0,U Z u.f1] 27:=(ae (by have h_:=eP (w.alloc (.cells #[U Z a.f0,U Z a.f1] 27)) (.cells #[U Z u.f0,U Z u.f1] 27);first|exact h_|(simp only [World.size_alloc] at h_;exact h_)) _)
 have m8:eT (((w.alloc (.cells #[U Z a.f0,U Z a.f1] 27)).alloc (.cells #[U Z u.f0,U Z u.f1] 27)).alloc (.cells #[U Z 0,U Z 0] 27)) (w.heap.size+1+1) #[U Z 0,U Z 0] 27:=(by have h_:=eP ((w.alloc (.cells #[U Z a.f0,U Z a.f1] 27)).alloc (.cells #[U Z u.f0,U Z u.f1] 27)) (.cells #[U Z 0,U Z 0] 27);first|exact h_|(simp only [World.size_alloc] at h_;exact h_))
 replace mT:eT (((w.alloc (.cells #[U Z a.f0,U Z a.f1] 27)).alloc (.cells #[U Z u.f0,U Z u.f1] 27)).alloc (.cells #[U Z 0,U Z 0] 27)) b #[U Z s.nx,U Z s.ny,U Z s.cell,U Z s.slot,U Z s.slots,U Z s.layers,U Z s.most,.slice A7 s.shores.length c7,.slice A8 s.currents.length c8,U Z v.speed,U Z v.dive,U Z v.use.f0,U Z v.use.f1,U Z v.drift.f0,U Z v.drift.f1,U Z v.reserve] 110:=(ae (ae (ae mT _) _) _)
 have mB:Below w.heap.size w (((w.alloc (.cells #[U Z a.f0,U Z a.f1] 27)).alloc (.cells #[U Z u.f0,U Z u.f1] 27)).alloc (.cells #[U Z 0,U Z 0] 27)):=(aT (aT (aT (Below.refl w.heap.size w) _) _) _)
 have jS:w.heap.size≤w.heap.size:=Nat.le_refl _
 generalize qL:(((w.alloc (.cells #[U Z a.f0,U Z a.f1] 27)).alloc (.cells #[U Z u.f0,U Z u.f1] 27)).alloc (.cells #[U Z 0,U Z 0] 27)) = W1 at mT m5 m7 m8 mB ⊢
 clear qL
 generalize hg5:w.heap.size = g5 at m5 m7 m8 ⊢
 have KP:b≠g5:=by omega
 have WZ:g5≠b:=KP.symm
 have hG5:w.heap.size≤g5:=by omega
 generalize hg7:g5+1 = g7 at m7 m8 ⊢
 have wQ:b≠g7:=by omega
 have DC:g5≠g7:=by omega
 have ZJ:g7≠b:=wQ.symm
 have Ri:g7≠g5:=DC.symm
 have hG7:w.heap.size≤g7:=by omega
 generalize hg8:g7+1 = g8 at m8 ⊢
 have Ii:b≠g8:=by omega
 have Nz:g5≠g8:=by omega
 have zP:g7≠g8:=by omega
 have ajH:g8≠b:=Ii.symm
 have ZL:g8≠g5:=Nz.symm
 have nC:g8≠g7:=zP.symm
 have Xv:w.heap.size≤g8:=by omega
 clear jS wP
 try clear hg8
 try clear hg7
 try clear hg5
 have wG:w.heap.size≤W1.heap.size:=mB.size
 replace mT:=ag mT
 replace m5:=ag m5
 replace m7:=ag m7
 replace m8:=ag m8
 replace mB:=bU mB
 have aFt:wrap64 (1000*u.f0) = 1000*u.f0:=by unfold wrap64;omega
 have aFu:wrap64 (speed+1000*u.f0) = speed+1000*u.f0:=by unfold wrap64;omega
 have aFv:wrap64 ((speed+1000*u.f0)*v.dive) = (speed+1000*u.f0)*v.dive:=by unfold wrap64;omega
 have aFw:wrap64 (1000*u.f1) = 1000*u.f1:=by unfold wrap64;omega
 have aFx:wrap64 (speed+1000*u.f1) = speed+1000*u.f1:=by unfold wrap64;omega
 have aFy:wrap64 ((speed+1000*u.f1)*v.dive) = (speed+1000*u.f1)*v.dive:=by unfold wrap64;omega
 refine jT (n:=25) (S:=fun w'=>w'.cell? ⟨g7,0,none⟩ = some (U Z u.f0)∧w'.cell? ⟨g7,1,none⟩ = some (U Z u.f1)∧w'.cell? ⟨g5,0,none⟩ = some (U Z a.f0)∧w'.cell? ⟨g5,1,none⟩ = some (U Z a.f1)∧w'.cell? ⟨b,10,none⟩ = some (U Z v.dive)) (ds:=[24]) #[ac,ac,ac,ac,ac,ac,ac,ac,ac,ac,ac,ac,ac,ac,ac,ac,ac,ac,ac,ac,ac,ac,ac,ac,ac] aY rfl rfl ⟨((af m7 0).trans rfl),((af m7 1).trans rfl),((af m5 0).trans rfl),((af m5 1).trans rfl),((af mT 10).trans rfl)⟩ (fun hHeld=>?_)
 generalize hWd:World.drew _ = Wx at mB mT m5 m7 m8 hHeld ⊢
 clear hWd
 refine dW (i:=0) (N:=some 12) aY ?_
 refine dW (i:=1) (N:=some 13) aY ?_
 refine dW (i:=5) (N:=some 17) aY ?_
 refine dW (i:=6) (N:=some 18) aY ?_
 refine dW (i:=7) (N:=some 19) aY ?_
 refine dW (i:=8) (N:=some 20) aY ?_
 refine dW (i:=11) (N:=some 23) aY ?_
 refine dW (i:=12) (N:=some 24) aY ?_
 refine dW (i:=16) (N:=some 28) aY ?_
 refine dW (i:=17) (N:=some 29) aY ?_
 refine dW (i:=18) (N:=some 30) aY ?_
 refine dW (i:=19) (N:=some 31) aY ?_
 refine ja (i:=2) (N:=some 14) aY hHeld ?_
 refine dW (i:=3) (N:=some 15) aY ?_
 refine dW (i:=4) (N:=some 16) aY ?_
 refine ja (i:=9) (N:=some 21) aY hHeld ?_
 refine dW (i:=10) (N:=some 22) aY ?_
 refine ja (i:=13) (N:=some 25) aY hHeld ?_
 refine dW (i:=14) (N:=some 26) aY ?_
 refine dW (i:=15) (N:=some 27) aY ?_
 refine ja (i:=20) (N:=some 32) aY hHeld ?_
 refine dW (i:=21) (N:=some 33) aY ?_
 refine dW (i:=22) (N:=some 34) aY ?_
 refine jJ (i:=23) (N:=some 9) #[ab,ab,ab,ab,ab,ab,ab,ab,ab,ab,ab,ab,ab,ab,ab,ab,ab,ab,ab,ab,ab,ab,ab,ab,ac] rfl rfl aY (by decide) (fun K hK=>?_)
 refine Nu (w1:=?_) (v:=?_) (by rfl) rfl ?_ ?_
 rotate_left 2
 ·go_simp
  constructor
  ·rfl
  ·rfl
 refine hK.out _ _ ⟨((af (ae m7 (.cells #[U Z 0,U Z 0] 27)) 0).trans rfl),((af (ae m7 (.cells #[U Z 0,U Z 0] 27)) 1).trans rfl),((af (ae m5 (.cells #[U Z 0,U Z 0] 27)) 0).trans rfl),((af (ae m5 (.cells #[U Z 0,U Z 0] 27)) 1).trans rfl),((af (ae mT (.cells #[U Z 0,U Z 0] 27)) 10).trans rfl)⟩ (fun hHeld=>?_)
 clear hK K
 refine eY aEs ?_
 refine Kg (i:=24) (N:=none) #[ab,ab,ab,ab,ab,ab,ab,ab,ab,ab,ab,ab,ab,ab,ab,ab,ab,ab,ab,ab,ab,ab,ab,ab,ab] rfl rfl aY (by decide) (fun K hK=>?_)
 have NL:=eP Wx (.cells #[U Z 0,U Z 0] 27)
 have K7:=bn NL 0
 have PH:=bn NL 1
 have K8:=(af NL 0).trans rfl
 have PI:=(af NL 1).trans rfl
 refine zD (w1:=?_) (by rfl) rfl ?_ ?_
 rotate_left
 ·go_simp
  rfl
 clear NL K7 PH K8 PI
 refine hK.out _ _ ?_
 clear hK K
 refine lI aY ?_
 clear aFt aFu aFv
 clear aFw aFx aFy
 have Zp:w.heap.size≤Wx.heap.size:=mB.size
 have wP:=bP mT
 have Bo:=bP m5
 have He:=bP m7
 have Kt:=bP m8
 have m9:eT (Wx.alloc (.cells #[U Z ((speed+1000*u.f0)*v.dive),U Z ((speed+1000*u.f1)*v.dive)] 27)) (Wx.heap.size) #[U Z ((speed+1000*u.f0)*v.dive),U Z ((speed+1000*u.f1)*v.dive)] 27:=(by have h_:=eP Wx (.cells #[U Z ((speed+1000*u.f0)*v.dive),U Z ((speed+1000*u.f1)*v.dive)] 27);first|exact h_|(simp only [World.size_alloc] at h_;exact h_))
 replace mT:eT (Wx.alloc (.cells #[U Z ((speed+1000*u.f0)*v.dive),U Z ((speed+1000*u.f1)*v.dive)] 27)) b #[U Z s.nx,U Z s.ny,U Z s.cell,U Z s.slot,U Z s.slots,U Z s.layers,U Z s.most,.slice A7 s.shores.length c7,.slice A8 s.currents.length c8,U Z v.speed,U Z v.dive,U Z v.use.f0,U Z v.use.f1,U Z v.drift.f0,U Z v.drift.f1,U Z v.reserve] 110:=(ae mT _)
 replace m5:eT (Wx.alloc (.cells #[U Z ((speed+1000*u.f0)*v.dive),U Z ((speed+1000*u.f1)*v.dive)] 27)) g5 #[U Z a.f0,U Z a.f1] 27:=(ae m5 _)
 replace m7:eT (Wx.alloc (.cells #[U Z ((speed+1000*u.f0)*v.dive),U Z ((speed+1000*u.f1)*v.dive)] 27)) g7 #[U Z u.f0,U Z u.f1] 27:=(ae m7 _)
 replace m8:eT (Wx.alloc (.cells #[U Z ((speed+1000*u.f0)*v.dive),U Z ((speed+1000*u.f1)*v.dive)] 27)) g8 #[U Z 0,U Z 0] 27:=(ae m8 _)
 replace mB:Below w.heap.size w (Wx.alloc (.cells #[U Z ((speed+1000*u.f0)*v.dive),U Z ((speed+1000*u.f1)*v.dive)] 27)):=(aT mB _)
 have jS:w.heap.size≤Wx.heap.size:=Zp
 generalize qL:(Wx.alloc (.cells #[U Z ((speed+1000*u.f0)*v.dive),U Z ((speed+1000*u.f1)*v.dive)] 27)) = W2 at mT m5 m7 m8 m9 mB ⊢
 clear qL
 generalize hg9:Wx.heap.size = g9 at m9 ⊢
 have Re:b≠g9:=by omega
 have ZW:g5≠g9:=by omega
 have Rh:g7≠g9:=by omega
 have awF:g8≠g9:=by omega
 have aha:g9≠b:=Re.symm
 have auU:g9≠g5:=ZW.symm
 have ahc:g9≠g7:=Rh.symm
 have aPQ:g9≠g8:=awF.symm
 have hG9:w.heap.size≤g9:=by omega
 clear jS wP Bo He Kt
 try clear hg9
 have sO:w.heap.size≤W2.heap.size:=mB.size
 have t0:=tdm ((speed+1000*u.f0)*v.dive)
 have t1:=tdm ((speed+1000*u.f1)*v.dive)
 generalize (speed+1000*u.f0)*v.dive = X at*
 generalize (speed+1000*u.f1)*v.dive = Y at*
 generalize hq0:Int.tdiv X 1000000 = q0 at*
 generalize hr0:Int.tmod X 1000000 = r0 at*
 generalize hq1:Int.tdiv Y 1000000 = q1 at*
 generalize hr1:Int.tmod Y 1000000 = r1 at*
 have bq0:-10000000000000≤q0∧q0≤10000000000000:=by omega
 have bq1:-10000000000000≤q1∧q1≤10000000000000:=by omega
 have T0:=Lib.hid t0
 have T1:=Lib.hid t1
 clear t0 t1
 obtain ⟨D8,ES⟩:=J9 m5
 obtain ⟨ahD,ahE⟩:=J9 m9
 obtain ⟨PL,afc,axk,axl⟩:=jq m8
 go_wp2_with fail
 go_quiet (fail)
 clear hq0 hq1
 go_wp2
 all_goals
  have t0:=T0.out
  have t1:=T1.out
  try simp only [bne_iff_ne,ne_eq,bne_eq_false_iff_eq] at*
  exact bodyPost_ret (results_cell_row rfl _ _ g8 27 #[_,_] (0,0) _ rfl (aI (aI (au m8 _) 0 _ rfl) 1 _ rfl) Try.underlying27 rfl aY) rfl ⟨akd (by rw [HR.out];unfold Hy;dsimp only;omega) (by rw [HR.out];unfold Xw;dsimp only;omega),(((nA mB) _).setCell Xv _).setCell Xv _⟩
end Go.Proofs.Ytmhaiihjfgfaoaa.Gl
end
section
namespace Go.Proofs.Ytmhaiihjfgfaoaa.Gl
open Go.RowKit Go.Shelf Go.Proofs.YtmhaiihjfgfaoaaW.PrintWords Go.Proofs.YtmhaiihjfgfaoaaW.PrintLast Go.Proofs.YtmhaiihjfgfaoaaW.PrintMore Go.Proofs.Ytmhaiihjfgfaoaa.Pr Go.Proofs.YtmhaiihjfgfaoaaW.Round
set_option linter.unusedVariables false
set_option linter.unusedSimpArgs false
attribute [local go_sem] eD eF fD fE eG
attribute [local go_sem] Oper.semAt_some
def agF (nx i0:Int) (n:Nat) (k:Int):List Int:=(List.range n).map fun j:Nat=>k*nx+(i0+(j:Int))
def allT (nx i0:Int) (n:Nat) (k0:Int) (m:Nat):List Int:=(List.range m).flatMap fun r:Nat=>agF nx i0 n (k0+(r:Int))
def Dw (nx i0:Int) (n:Nat) (k0:Int) (q j:Nat):List Int:=allT nx i0 n k0 q++agF nx i0 j (k0+(q:Int))
theorem aa3 (nx i0:Int) (n:Nat) (k0:Int):Dw nx i0 n k0 0 0 = []:=rfl
theorem Ux (nx i0:Int) (n:Nat) (k0:Int) (q:Nat):Dw nx i0 n k0 q 0 = allT nx i0 n k0 q:=by unfold Dw agF;simp
theorem KY (nx i0:Int) (n:Nat) (k0:Int) (q j:Nat):Dw nx i0 n k0 q (j+1) = Dw nx i0 n k0 q j++[(k0+(q:Int))*nx+(i0+(j:Int))]:=by
 unfold Dw agF
 rw [List.range_succ,List.map_append,List.map_singleton,List.append_assoc]
theorem O0 (nx i0:Int) (n:Nat) (k0:Int) (q:Nat):allT nx i0 n k0 (q+1) = Dw nx i0 n k0 q n:=by
 unfold Dw allT
 rw [List.range_succ,List.flatMap_append,List.flatMap_singleton]
theorem Zq (nx i0:Int) (n:Nat) (k0:Int):∀ (d q:Nat),allT nx i0 n k0 q <+:allT nx i0 n k0 (q+d)
 |0,q=>List.prefix_refl _
 |d+1,q=>by
  refine (Zq nx i0 n k0 d q).trans ?_
  rw [show q+(d+1) = (q+d)+1 by omega,O0]
  exact List.prefix_append _ _
theorem Uy {nx i0:Int} {n:Nat} {k0:Int} {m q j:Nat} (hq:q < m) (hj:j≤n):Dw nx i0 n k0 q j <+:allT nx i0 n k0 m:=by
 have h1:Dw nx i0 n k0 q j <+:Dw nx i0 n k0 q n:=by
  unfold Dw
  refine (List.prefix_append_right_inj _).2 ?_
  unfold agF
  refine List.IsPrefix.map _ ?_
  rw [show n = j+(n - j) by omega,List.range_add]
  exact List.prefix_append _ _
 rw [← O0] at h1
 have h2:=Zq nx i0 n k0 (m - (q+1)) (q+1)
 rw [show q+1+(m - (q+1)) = m by omega] at h2
 exact h1.trans h2
abbrev EJ (s:j3):={ c:Int // 0≤c∧c < s.nx*s.ny }
def uA (s:j3) (x:dO):List Int:=allT s.nx (uB s.cell x.f0 s.nx).1 ((uB s.cell x.f0 s.nx).2+1 - (uB s.cell x.f0 s.nx).1).toNat (uB s.cell x.f1 s.ny).1 ((uB s.cell x.f1 s.ny).2+1 - (uB s.cell x.f1 s.ny).1).toNat
def ake (s:j3) (x:dO) (xs:List (EJ s)):Prop:=xs.map Subtype.val = uA s x
def ash (s:j3) (x:dO) (xs:List (EJ s)):Prop:=xs.map Subtype.val <+:uA s x
theorem ae1 {c:Int} {a:lu} {most:Int} (hc:1≤c) (h0:0≤a.f0) (h1:0≤a.f1) (hm:1≤most):(0≤(uB c a most).1∧(uB c a most).1≤most - 1)∧(0≤(uB c a most).2∧(uB c a most).2≤most - 1):=by
 have d0:=OZ h0 hc
 have d1:=OZ h1 hc
 unfold uB xU
 dsimp only
 split <;> omega
def Ty (s:j3) (x:dO):Prop:=(0≤x.f0.f0∧x.f0.f0≤1099511627776)∧(0≤x.f0.f1∧x.f0.f1≤1099511627776)∧(0≤x.f1.f0∧x.f1.f0≤1099511627776)∧(0≤x.f1.f1∧x.f1.f1≤1099511627776)
set_option maxHeartbeats 1000000 in
theorem PE (b:Nat) (x:dO) (w:World):Calls Try.prog 118 #[.pointer (some ⟨b,0,none⟩),.agg #[U Z x.f0.f0,U Z x.f0.f1,U Z x.f1.f0,U Z x.f1.f1]] w fun e w'=>e = .returned (.func (.func 135) #[] #[.pointer (some ⟨w.heap.size,0,none⟩),.pointer (some ⟨w.heap.size+1,0,none⟩)])∧w' = (w.alloc (.cells #[.pointer (some ⟨b,0,none⟩)] 104)).alloc (.cells #[U Z x.f0.f0,U Z x.f0.f1,U Z x.f1.f0,U Z x.f1.f1] 31):=by
 have oP:=Try.underlying31
 go_enter Try.func118,Try.ntmps118
 go_wp2
 go_ret
 exact ⟨rfl,rfl⟩
theorem row_in {nx ny k:Int} (hx:1≤nx) (h0:0≤k) (h1:k≤ny - 1):0≤k*nx∧k*nx≤nx*ny - nx:=by
 refine ⟨Int.mul_nonneg h0 (by omega),?_⟩
 have h:=Int.mul_le_mul_of_nonneg_right h1 (show 0≤nx by omega)
 rw [Int.sub_mul,Int.one_mul,Int.mul_comm ny nx] at h
 exact h
def Env (w0:World) (bp bx b:Nat) (x:dO) (W:World):Prop:=Below w0.heap.size w0 W∧eT W bp #[.pointer (some ⟨b,0,none⟩)] 104∧eT W bx #[U Z x.f0.f0,U Z x.f0.f1,U Z x.f1.f0,U Z x.f1.f1] 31
theorem Env.below {w0:World} {bp bx b:Nat} {x:dO} {W W1:World} (h:Env w0 bp bx b x W) (hb:Below W.heap.size W W1):Env w0 bp bx b x W1:=⟨bO h.1 hb,h.2.1.below hb,h.2.2.below hb⟩
set_option maxRecDepth 100000 in
set_option maxHeartbeats 4000000 in
theorem PG (n:Nat) (hn:1≤n) (l bp bx:Nat) (w0:World) (b:Nat) (s:j3) (v:nz) (x:dO) (hT:jo w0 b s v) (hS:Dy s) (hx:Ty s x) (Kp:World→World→Prop) (hKp:∀ A B,Kp A B→Env w0 bp bx b x A→Env w0 bp bx b x B) (J Jx:List (EJ s)→World→Prop)
 (hY:∀ pre c W,J pre W→pre.length < (uA s x).length→YieldAt Fence.wide (n - 1) Try.prog l #[U Z c.1] W fun e W' =>
  (e = .returned (.bool true)∧J (pre++[c]) W'∧Kp W W')∨(e = .returned (.bool false)∧Jx (pre++[c]) W'))
 (hJa:∀ (f:List (EJ s)) W W',J f W→Below W.heap.size W W'→J f W')
 (W:World) (hE:Env w0 bp bx b x W) (h0:J [] W):
 CallsIn Fence.wide n Try.prog 135 #[.func (.yield l) #[] #[],.pointer (some ⟨bp,0,none⟩),.pointer (some ⟨bx,0,none⟩)] W fun e W'=>(∃ v,e = .returned v)∧
  ((∃ xs,ake s x xs∧J xs W')∨(∃ pre,ash s x pre∧Jx pre W')):=by
 have oP:=Try.underlying31
 have oo:=Try.underlying27
 obtain ⟨⟨x0,x1⟩,⟨x2,x3⟩,⟨x4,x5⟩,x6,x7⟩:=hx
 have hcl:=hS.cell
 have hnx:=hS.nx
 have hny:=hS.ny
 have gI:=ae1 (c:=s.cell) (a:=x.f0) (most:=s.nx) (by omega) x0 x2 hnx.1
 have gK:=ae1 (c:=s.cell) (a:=x.f1) (most:=s.ny) (by omega) x4 x6 hny.1
 have kN:=fun W (h:jo W b s v)=>PD b s v x.f0 s.nx W h hS x0 x1 x2 x3 hnx.1 hnx.2
 have kM:=fun W (h:jo W b s v)=>PD b s v x.f1 s.ny W h hS x4 x5 x6 x7 hny.1 hny.2
 have hAll:uA s x = allT s.nx (uB s.cell x.f0 s.nx).1 ((uB s.cell x.f0 s.nx).2+1 - (uB s.cell x.f0 s.nx).1).toNat (uB s.cell x.f1 s.ny).1 ((uB s.cell x.f1 s.ny).2+1 - (uB s.cell x.f1 s.ny).1).toNat:=rfl
 generalize uB s.cell x.f0 s.nx = I at*
 generalize uB s.cell x.f1 s.ny = K at*
 obtain ⟨i0,i1⟩:=I
 obtain ⟨k0,k1⟩:=K
 dsimp only at gI gK kN kM hAll
 obtain ⟨⟨i2,i3⟩,i4,i5⟩:=gI
 obtain ⟨⟨k2,k3⟩,k4,k5⟩:=gK
 have HAll:=Lib.hid hAll
 clear hAll hcl
 have hE0:=hE
 obtain ⟨hb0,mP,mX⟩:=hE0
 obtain ⟨A7,c7,A8,c8,mT,_⟩:=hT.below hb0
 clear hb0
 refine callsIn_of_wp Try.func135 rfl trivial ?_ rfl
 simp only [Try.ntmps135,List.size_toArray,List.length_cons,List.length_nil,Nat.reduceAdd,Nat.reduceSub,Array.replicate_succ,Array.replicate_zero,List.push_toArray,List.append_toArray,List.nil_append,List.cons_append]
 gi_wp2_with fail
 refine Eu (wpIn_wide.2 ?_)
 replace mT:=ag mT
 replace mP:=ag mP
 replace mX:=ag mX
 replace h0:=hJa _ _ _ h0 (bU (Below.refl _ _))
 replace hE:=hE.below (bU (Below.refl _ _))
 refine jT (n:=14) (S:=fun w'=>w'.cell? ⟨bp,0,none⟩ = some (.pointer (some ⟨b,0,none⟩))∧w'.cell? ⟨bx,0,none⟩ = some (U Z x.f0.f0)∧w'.cell? ⟨bx,1,none⟩ = some (U Z x.f0.f1)∧w'.cell? ⟨b,0,none⟩ = some (U Z s.nx)) (ds:=[]) #[ac,ac,ac,ac,ac,ac,ac,ac,ac,ac,ac,ac,ac,ac] aY rfl rfl ⟨((af mP 0).trans rfl),((af mX 0).trans rfl),((af mX 1).trans rfl),((af mT 0).trans rfl)⟩ (fun hHeld=>?_)
 generalize hWd:World.drew _ = Wx at*
 clear hWd
 refine dW (i:=1) (N:=some 12) aY ?_
 refine ja (i:=0) (N:=some 11) aY hHeld ?_
 refine ja (i:=2) (N:=some 13) aY hHeld ?_
 refine ja (i:=3) (N:=some 14) aY hHeld ?_
 refine dW (i:=4) (N:=some 15) aY ?_
 refine dW (i:=5) (N:=some 16) aY ?_
 refine dW (i:=6) (N:=some 17) aY ?_
 refine ja (i:=7) (N:=some 18) aY hHeld ?_
 refine jJ (i:=8) (N:=some 19) #[ab,ab,ab,ab,ab,ab,ab,ab,ab,ac,ac,ac,ac,ac] rfl rfl aY (by decide) (fun K hK=>?_)
 have kF:=kN Wx (hT.below hE.1)
 refine gQ Try.func136 aY rfl #[.pointer (some ⟨b,0,none⟩),.agg #[U Z x.f0.f0,U Z x.f0.f1],U Z s.nx] (by rfl) rfl rfl PK ?_
 with_reducible refine (kF).mono ?_
 rintro e W1 ⟨rfl,hb2⟩
 refine ⟨_,rfl,?_⟩
 clear kF
 replace mT:=av mT hb2
 replace mP:=av mP hb2
 replace mX:=av mX hb2
 replace h0:=hJa _ _ _ h0 hb2
 replace hE:=hE.below hb2
 clear hb2
 refine hK.out _ _ ⟨((af mP 0).trans rfl),((af mX 0).trans rfl),((af mX 1).trans rfl),((af mT 0).trans rfl)⟩ (fun hHeld=>?_)
 clear hK K
 refine eY (by show Act.put _ (some 19) _ = _;simp only [Act.put,List.setIfInBounds_toArray,List.set_cons_zero,List.set_cons_succ,eB,eH];rfl) ?_
 refine dW (i:=9) (N:=some 10) aY ?_
 refine dW (i:=10) (N:=some 20) aY ?_
 refine dW (i:=11) (N:=some 21) aY ?_
 refine dW (i:=12) (N:=some 4) aY ?_
 refine dW (i:=13) (N:=some 5) aY ?_
 refine lI aY ?_
 refine vZ ?_
 gi_wp2_with fail
 refine Eu (wpIn_wide.2 ?_)
 replace mT:=ag mT
 replace mP:=ag mP
 replace mX:=ag mX
 replace h0:=hJa _ _ _ h0 (bU (Below.refl _ _))
 replace hE:=hE.below (bU (Below.refl _ _))
 refine jT (n:=14) (S:=fun w'=>w'.cell? ⟨bp,0,none⟩ = some (.pointer (some ⟨b,0,none⟩))∧w'.cell? ⟨bx,2,none⟩ = some (U Z x.f1.f0)∧w'.cell? ⟨bx,3,none⟩ = some (U Z x.f1.f1)∧w'.cell? ⟨b,1,none⟩ = some (U Z s.ny)) (ds:=[]) #[ac,ac,ac,ac,ac,ac,ac,ac,ac,ac,ac,ac,ac,ac] aY rfl rfl ⟨((af mP 0).trans rfl),((af mX 2).trans rfl),((af mX 3).trans rfl),((af mT 1).trans rfl)⟩ (fun hHeld=>?_)
 generalize hWd:World.drew _ = Wx at*
 clear hWd
 refine dW (i:=1) (N:=some 24) aY ?_
 refine ja (i:=0) (N:=some 23) aY hHeld ?_
 refine ja (i:=2) (N:=some 25) aY hHeld ?_
 refine ja (i:=3) (N:=some 26) aY hHeld ?_
 refine dW (i:=4) (N:=some 27) aY ?_
 refine dW (i:=5) (N:=some 28) aY ?_
 refine dW (i:=6) (N:=some 29) aY ?_
 refine ja (i:=7) (N:=some 30) aY hHeld ?_
 refine jJ (i:=8) (N:=some 31) #[ab,ab,ab,ab,ab,ab,ab,ab,ab,ac,ac,ac,ac,ac] rfl rfl aY (by decide) (fun K hK=>?_)
 have kF:=kM Wx (hT.below hE.1)
 refine gQ Try.func136 aY rfl #[.pointer (some ⟨b,0,none⟩),.agg #[U Z x.f1.f0,U Z x.f1.f1],U Z s.ny] (by rfl) rfl rfl PK ?_
 with_reducible refine (kF).mono ?_
 rintro e W2 ⟨rfl,hb2⟩
 refine ⟨_,rfl,?_⟩
 clear kF
 replace mT:=av mT hb2
 replace mP:=av mP hb2
 replace mX:=av mX hb2
 replace h0:=hJa _ _ _ h0 hb2
 replace hE:=hE.below hb2
 clear hb2
 refine hK.out _ _ ⟨((af mP 0).trans rfl),((af mX 2).trans rfl),((af mX 3).trans rfl),((af mT 1).trans rfl)⟩ (fun hHeld=>?_)
 clear hK K
 refine eY (by show Act.put _ (some 31) _ = _;simp only [Act.put,List.setIfInBounds_toArray,List.set_cons_zero,List.set_cons_succ,eB,eH];rfl) ?_
 refine dW (i:=9) (N:=some 22) aY ?_
 refine dW (i:=10) (N:=some 32) aY ?_
 refine dW (i:=11) (N:=some 33) aY ?_
 refine dW (i:=12) (N:=some 6) aY ?_
 refine dW (i:=13) (N:=some 7) aY ?_
 refine lI aY ?_
 refine vZ ?_
 clear mT mP mX kN kM
 gi_wp2
 gi_loopw [8] (fun i wr=>∃ (q:Nat) (pre:List (EJ s)),q≤(k1+1 - k0).toNat∧i = U Z (k0+(q:Int))∧Hid (pre.map Subtype.val = Dw s.nx i0 (i1+1 - i0).toNat k0 q 0)∧Env w0 bp bx b x wr∧J pre wr) (fun i _=>(k1+1 - intOf i).toNat)
 case atStart=>exact ⟨0,[],Nat.zero_le _,by simp,Lib.hid (by rw [aa3];rfl),hE,h0⟩
 case round =>
  clear hE h0
  obtain ⟨q,pre,hq,rfl,HP,hE,hJs⟩:=hrel
  by_cases hlt:k0+(q:Int)≤k1
  ·gi_wp2
   gi_loopw [9] (fun i wr2=>∃ (j:Nat) (OA:List (EJ s)),j≤(i1+1 - i0).toNat∧i = U Z (i0+(j:Int))∧Hid (OA.map Subtype.val = Dw s.nx i0 (i1+1 - i0).toNat k0 q j)∧Env w0 bp bx b x wr2∧J OA wr2) (fun i _=>(i1+1 - intOf i).toNat)
   case atStart=>exact ⟨0,pre,Nat.zero_le _,by simp,HP,hE,hJs⟩
   case round =>
    clear hE hJs
    obtain ⟨j,OA,hj,rfl,HQ,hE,hJ2⟩:=hrel
    by_cases hjk:i0+(j:Int)≤i1
    ·have hlen:OA.length < (uA s x).length:=by
      have h1:=Uy (nx:=s.nx) (i0:=i0) (k0:=k0) (show q < (k1+1 - k0).toNat by omega) (show j+1≤(i1+1 - i0).toNat by omega)
      have h2:=h1.length_le
      rw [KY,← HQ.out,← HAll.out] at h2
      simp at h2
      omega
     have hr:=row_in (ny:=s.ny) (k:=k0+(q:Int)) hnx.1 (by omega) (by omega)
     have hxy:=iF (show 0≤s.nx by omega) hnx.2 (show 0≤s.ny by omega) hny.2
     obtain ⟨fn,tmps,assign,body,hy,hR⟩:=hY OA ⟨(k0+(q:Int))*s.nx+(i0+(j:Int)),by omega,by omega⟩ _ hJ2 hlen
     dsimp only at hy
     have hE0:=hE
     obtain ⟨hb0,mP,_⟩:=hE0
     obtain ⟨A7,c7,A8,c8,mT,_⟩:=hT.below hb0
     clear hb0
     have cP:=(af mP 0).trans rfl
     have cT:=(af mT 0).trans rfl
     clear mT mP
     gi_wp2
     refine hR.mono ?_
     rintro e W3 (⟨rfl,hJ3,hk3⟩|⟨rfl,hJx3⟩)
     ·clear cP cT
      have hE3:=hKp _ _ hk3 hE
      clear hk3 hE
      gi_wp2
      go_roundw
      case rel=>exact ⟨j+1,_,by omega,by simp;omega,Lib.hid (by rw [List.map_append,HQ.out,KY];rfl),hE3,hJ3⟩
      case measure=>simp [intOf];omega
     ·gi_wp2
      refine bodyPost_ret (results_none rfl _ _ _) rfl ?_
      refine ⟨⟨_,rfl⟩,.inr ⟨_,?_,hJx3⟩⟩
      show List.map Subtype.val _ <+:_
      rw [List.map_append,HQ.out,List.map_singleton,← KY,HAll.out]
      exact Uy (by omega) (by omega)
    ·obtain rfl:j = (i1+1 - i0).toNat:=by omega
     gi_wp2
     go_roundw
     case rel=>exact ⟨q+1,OA,by omega,by simp;omega,Lib.hid (by rw [HQ.out,Ux,← O0]),hE,hJ2⟩
     case measure=>simp [intOf];omega
  ·obtain rfl:q = (k1+1 - k0).toNat:=by omega
   gi_wp2
   go_end0
   exact ⟨⟨_,rfl⟩,.inl ⟨pre,by unfold ake;rw [HAll.out,HP.out,Ux],hJs⟩⟩
end Go.Proofs.Ytmhaiihjfgfaoaa.Gl
end
