import Derived.Test.YtmhaiihjfgfaoaaGnGliderNever3
import Derived.Test.YtmhaiihjfgfaoaaGnGliderNever8
import Derived.Test.YtmhaiihjfgfaoaaGnGliderNever6
open Go.Value renaming int → Z
open Go.IntKind renaming i64 → ab
open Bool renaming true → ac, false → al
section
namespace Go.Proofs.Ytmhaiihjfgfaoaa.Gl
open Go.RowKit Go.Shelf Go.Proofs.YtmhaiihjfgfaoaaW.PrintWords Go.Proofs.YtmhaiihjfgfaoaaW.PrintLast Go.Proofs.YtmhaiihjfgfaoaaW.PrintMore Go.Proofs.Ytmhaiihjfgfaoaa.Pr Go.Proofs.YtmhaiihjfgfaoaaW.Round
set_option linter.unusedVariables false
set_option linter.unusedSimpArgs false
attribute [local go_sem] dw dx dM dN dz
def iR (x lo hi:Int):Bool:=decide (lo≤x) && decide (x≤hi)
theorem dR {x lo hi:Int}:iR x lo hi = true↔lo≤x∧x≤hi:=by unfold iR;simp
theorem uP (x lo hi:Int) (w:World):Calls Try.prog 74 #[Z ab x,Z ab lo,Z ab hi] w (oo (.bool (iR x lo hi)) w) :=
 (aV.calls x lo hi (iR x lo hi) w (by
  unfold aV.f iR
  by_cases h:x ≥ lo
  ·rw [if_pos h,show decide (lo≤x) = true from decide_eq_true h];simp
  ·rw [if_neg h,show decide (lo≤x) = false from decide_eq_false h];simp)).mono fun _ _ h=>⟨h.1,h.2.below⟩
def EU (lo hi:Int):Bool:=!(decide (lo > hi) || decide (lo < -1073741824) || decide (hi > 1073741824))
theorem wy {lo hi:Int}:EU lo hi = true↔lo≤hi∧-1073741824≤lo∧hi≤1073741824:=by
 unfold EU
 simp only [Bool.not_eq_true',Bool.or_eq_false_iff,decide_eq_false_iff_not]
 omega
theorem ac4 (k:Nat) (lo hi:Int):fQ.f (k+2) lo hi = some (if EU lo hi then 0 else 2):=by
 unfold fQ.f bA.f EU
 simp only [bA.l0,lq]
 by_cases h1:hi < lo
 ·simp [h1]
  try omega
 ·by_cases h2:lo < -1073741824
  ·simp [h1,h2]
   try omega
  ·by_cases h3:1073741824 < hi
   ·simp [h1,h2,h3]
   ·have h3':hi≤1073741824:=by omega
    have h2':-1073741824≤lo:=by omega
    have h1':lo≤hi:=by omega
    simp [h1,h2,h3,wrap64,h3',h2',h1']
def ou (lo hi a b:Int):Bool:=EU lo hi && decide (a≤lo) && decide (hi≤b)
theorem YB (k:Nat) (lo hi a b:Int):aY.f (k+2) lo hi a b = some (ou lo hi a b):=by
 unfold aY.f ou
 rw [ac4,Option.bind_some]
 cases EU lo hi with
 |false=>rfl
 |true =>
  by_cases h:lo ≥ a
  ·rw [if_pos rfl,if_pos rfl,if_pos h,show decide (a≤lo) = true from decide_eq_true h];simp
  ·rw [if_pos rfl,if_pos rfl,if_neg h,show decide (a≤lo) = false from decide_eq_false h];simp
theorem ME (lo hi a b:Int) (w:World):Calls Try.prog 77 #[.agg #[Z ab lo,Z ab hi],Z ab a,Z ab b] w (oo (.bool (ou lo hi a b)) w):=aY.calls 2 _ _ _ _ _ w (YB 0 lo hi a b)
theorem Rw {α:Type} {p:α→Bool} {l:List α} {k:Nat} {x:α} (hk:l[k]? = some x) (h0:(l.take k).any p = false) (hx:p x = true):l.findIdx? p = some k:=by
 have hlt:=(List.getElem?_eq_some_iff.1 hk).1
 rw [List.findIdx?_eq_some_iff_getElem]
 refine ⟨hlt,by rw [(List.getElem?_eq_some_iff.1 hk).2];exact hx,fun j hj=>?_⟩
 have:=List.any_eq_false.1 h0 l[j] (by rw [List.mem_take_iff_getElem];exact ⟨j,by omega,rfl⟩)
 simpa using this
def Rx {α:Type} (p:α→Bool) (l:List α):Int:=match l.findIdx? p with|none=>-1|some i=>i
theorem aa9 {α:Type} (p:α→Bool) (l:List α):(Rx p l < 0∧l.any p = false)∨(0≤Rx p l∧l.any p = true):=by
 unfold Rx
 cases h:l.findIdx? p with
 |none =>
  refine .inl ⟨by decide,?_⟩
  rw [List.any_eq_false]
  intro x hx
  have:=List.findIdx?_eq_none_iff.1 h x hx
  simp [this]
 |some i =>
  obtain ⟨h1,h2,_⟩:=List.findIdx?_eq_some_iff_getElem.1 h
  exact .inr ⟨by dsimp only;omega,List.any_eq_true.2 ⟨_,List.getElem_mem h1,h2⟩⟩
section
variable {P:Program} {Q:Exit→Act→World→Prop} {ops:Array Oper}
end
set_option maxRecDepth 100000 in
set_option maxHeartbeats 2000000 in
theorem agz (gs:Nat) (lb:Array Value) (g:qW→Bool) (A:Option Addr) (c:Nat) (l:List qW) (w:World) (hC:Kd.C Cm w A l.length l) (hc:l.length≤c)
 (egs:∀ args w,(callFunc gs args).run Try.prog w = .ok (.enter gs args) w)
 (hg:∀ x W,Below w.heap.size w W→Calls Try.prog gs (#[.agg #[Z ab x.f0.f0,Z ab x.f0.f1,Z ab x.f1.f0,Z ab x.f1.f1]]++lb) W (oo (.bool (g x)) W)):
 Calls Try.prog 121 #[.slice A l.length c,.func (.func gs) #[] lb] w (oo (Z ab (Rx g l)) w):=by
 have avP:=Try.underlying40
 have mE:=Try.underlying27
 have hb:=hC.2.1
 have HI:Hid (Rx g l = match l.findIdx? g with|none=>-1|some i=>(i:Int)):=Lib.hid rfl
 go_enter Try.func121,Try.ntmps121
 go_wp2
 go_loopw [8] (fun i wr=>∃ (k:Nat),k≤l.length∧i = Z ab k∧Hid ((l.take k).any g = false)∧Below w.heap.size w wr) (fun i _=>l.length - (intOf i).toNat)
 case atStart=>exact ⟨0,Nat.zero_le _,rfl,Lib.hid (by simp),Below.refl _ _⟩
 case round =>
  obtain ⟨k,hk,rfl,HA,mB⟩:=hrel
  by_cases hlt:k < l.length
  ·obtain ⟨ad,rfl,hx0,hx1,hx2,hx3⟩:=Fq hC k (by omega) (by omega)
   simp only [Int.toNat_natCast] at hx0 hx1 hx2 hx3
   replace hx0:=(mB.cell (World.block_lt_of_cell? w _ hx0)).trans hx0
   replace hx1:=(mB.cell (World.block_lt_of_cell? w _ hx1)).trans hx1
   replace hx2:=(mB.cell (World.block_lt_of_cell? w _ hx2)).trans hx2
   replace hx3:=(mB.cell (World.block_lt_of_cell? w _ hx3)).trans hx3
   have hlk:l[k]? = some (bQ l (k:Int)):=by simp [bQ,List.getD_eq_getElem?_getD,hlt]
   have htk:l.take (k+1) = l.take k++[bQ l (k:Int)]:=by rw [List.take_add_one,hlk];rfl
   generalize bQ l (k:Int) = x at*
   have HT:=Lib.hid htk
   have HK:=Lib.hid hlk
   clear htk hlk
   go_wp2_with fail
   have hcon:=hg x wr mB
   (with_reducible refine hcon.mono ?_)
   clear hcon hx0 hx1 hx2 hx3
   rintro e W1 ⟨rfl,hb1⟩
   replace mB:=aJ mB hb1
   clear hb1
   cases hbx:g x with
   |true =>
    have HE:=Lib.hid (HI.out.trans (by rw [Rw HK.out HA.out hbx]))
    clear hbx
    go_wp2
    go_ret
    exact ⟨by rw [HE.out];rfl,mB⟩
   |false =>
    have HB:=Lib.hid hbx
    clear hbx
    go_wp2
    go_roundw
    case rel=>exact ⟨k+1,by omega,by simp,Lib.hid (by rw [HT.out,List.any_append,HA.out,List.any_cons,HB.out];rfl),mB⟩
    case measure=>simp [intOf];omega
  ·obtain rfl:k = l.length:=by omega
   rw [List.take_length] at HA
   have hn:l.findIdx? g = none:=by
    rw [List.findIdx?_eq_none_iff]
    intro x hx
    have:=List.any_eq_false.1 HA.out x hx
    simpa using this
   have HE:=Lib.hid (HI.out.trans (by rw [hn]))
   clear hn
   go_wp2
   go_ret
   exact ⟨by rw [HE.out];rfl,mB⟩
set_option maxHeartbeats 1000000 in
theorem ac5 (gs:Nat) (lb:Array Value) (g:qW→Bool) (A:Option Addr) (c:Nat) (l:List qW) (w:World) (hC:Kd.C Cm w A l.length l) (hc:l.length≤c)
 (egs:∀ args w,(callFunc gs args).run Try.prog w = .ok (.enter gs args) w)
 (hg:∀ x W,Below w.heap.size w W→Calls Try.prog gs (#[.agg #[Z ab x.f0.f0,Z ab x.f0.f1,Z ab x.f1.f0,Z ab x.f1.f1]]++lb) W (oo (.bool (g x)) W)):
 Calls Try.prog 75 #[.slice A l.length c,.func (.func gs) #[] lb] w (oo (.bool (l.any g)) w):=by
 have hcon:=agz gs lb g A c l w hC hc egs hg
 clear hg egs
 go_enter Try.func75,Try.ntmps75
 go_wp2_with fail
 (with_reducible refine hcon.mono ?_)
 clear hcon
 rintro e W1 ⟨rfl,mB⟩
 rcases aa9 g l with ⟨h1,h2⟩|⟨h1,h2⟩
 ·have HA:=Lib.hid h2
  have hd:decide (0≤Rx g l) = false:=decide_eq_false (by omega)
  clear h1 h2
  go_wp2
  go_ret
  exact ⟨by rw [HA.out];rfl,mB⟩
 ·have HA:=Lib.hid h2
  have hd:decide (0≤Rx g l) = true:=decide_eq_true (by omega)
  clear h1 h2
  go_wp2
  go_ret
  exact ⟨by rw [HA.out];rfl,mB⟩
set_option maxRecDepth 100000 in
set_option maxHeartbeats 2000000 in
theorem agA (gs:Nat) (lb:Array Value) (g:cZ→Bool) (A:Option Addr) (c:Nat) (l:List cZ) (w:World) (hC:Kd.C Qe w A l.length l) (hc:l.length≤c)
 (egs:∀ args w,(callFunc gs args).run Try.prog w = .ok (.enter gs args) w)
 (hg:∀ x W,Below w.heap.size w W→Calls Try.prog gs (#[.agg #[Z ab x.f0.f0,Z ab x.f0.f1,Z ab x.f1.f0,Z ab x.f1.f1]]++lb) W (oo (.bool (g x)) W)):
 Calls Try.prog 137 #[.slice A l.length c,.func (.func gs) #[] lb] w (oo (Z ab (Rx g l)) w):=by
 have pG:=Try.underlying31
 have mE:=Try.underlying27
 have hb:=hC.2.1
 have HI:Hid (Rx g l = match l.findIdx? g with|none=>-1|some i=>(i:Int)):=Lib.hid rfl
 go_enter Try.func137,Try.ntmps137
 go_wp2
 go_loopw [8] (fun i wr=>∃ (k:Nat),k≤l.length∧i = Z ab k∧Hid ((l.take k).any g = false)∧Below w.heap.size w wr) (fun i _=>l.length - (intOf i).toNat)
 case atStart=>exact ⟨0,Nat.zero_le _,rfl,Lib.hid (by simp),Below.refl _ _⟩
 case round =>
  obtain ⟨k,hk,rfl,HA,mB⟩:=hrel
  by_cases hlt:k < l.length
  ·obtain ⟨ad,rfl,hx0,hx1,hx2,hx3⟩:=FC hC k (by omega) (by omega)
   simp only [Int.toNat_natCast] at hx0 hx1 hx2 hx3
   replace hx0:=(mB.cell (World.block_lt_of_cell? w _ hx0)).trans hx0
   replace hx1:=(mB.cell (World.block_lt_of_cell? w _ hx1)).trans hx1
   replace hx2:=(mB.cell (World.block_lt_of_cell? w _ hx2)).trans hx2
   replace hx3:=(mB.cell (World.block_lt_of_cell? w _ hx3)).trans hx3
   have hlk:l[k]? = some (bE l (k:Int)):=by simp [bE,List.getD_eq_getElem?_getD,hlt]
   have htk:l.take (k+1) = l.take k++[bE l (k:Int)]:=by rw [List.take_add_one,hlk];rfl
   generalize bE l (k:Int) = x at*
   have HT:=Lib.hid htk
   have HK:=Lib.hid hlk
   clear htk hlk
   go_wp2_with fail
   have hcon:=hg x wr mB
   (with_reducible refine hcon.mono ?_)
   clear hcon hx0 hx1 hx2 hx3
   rintro e W1 ⟨rfl,hb1⟩
   replace mB:=aJ mB hb1
   clear hb1
   cases hbx:g x with
   |true =>
    have HE:=Lib.hid (HI.out.trans (by rw [Rw HK.out HA.out hbx]))
    clear hbx
    go_wp2
    go_ret
    exact ⟨by rw [HE.out];rfl,mB⟩
   |false =>
    have HB:=Lib.hid hbx
    clear hbx
    go_wp2
    go_roundw
    case rel=>exact ⟨k+1,by omega,by simp,Lib.hid (by rw [HT.out,List.any_append,HA.out,List.any_cons,HB.out];rfl),mB⟩
    case measure=>simp [intOf];omega
  ·obtain rfl:k = l.length:=by omega
   rw [List.take_length] at HA
   have hn:l.findIdx? g = none:=by
    rw [List.findIdx?_eq_none_iff]
    intro x hx
    have:=List.any_eq_false.1 HA.out x hx
    simpa using this
   have HE:=Lib.hid (HI.out.trans (by rw [hn]))
   clear hn
   go_wp2
   go_ret
   exact ⟨by rw [HE.out];rfl,mB⟩
set_option maxHeartbeats 1000000 in
theorem abF (gs:Nat) (lb:Array Value) (g:cZ→Bool) (A:Option Addr) (c:Nat) (l:List cZ) (w:World) (hC:Kd.C Qe w A l.length l) (hc:l.length≤c)
 (egs:∀ args w,(callFunc gs args).run Try.prog w = .ok (.enter gs args) w)
 (hg:∀ x W,Below w.heap.size w W→Calls Try.prog gs (#[.agg #[Z ab x.f0.f0,Z ab x.f0.f1,Z ab x.f1.f0,Z ab x.f1.f1]]++lb) W (oo (.bool (g x)) W)):
 Calls Try.prog 125 #[.slice A l.length c,.func (.func gs) #[] lb] w (oo (.bool (l.any g)) w):=by
 have hcon:=agA gs lb g A c l w hC hc egs hg
 clear hg egs
 go_enter Try.func125,Try.ntmps125
 go_wp2_with fail
 (with_reducible refine hcon.mono ?_)
 clear hcon
 rintro e W1 ⟨rfl,mB⟩
 rcases aa9 g l with ⟨h1,h2⟩|⟨h1,h2⟩
 ·have HA:=Lib.hid h2
  have hd:decide (0≤Rx g l) = false:=decide_eq_false (by omega)
  clear h1 h2
  go_wp2
  go_ret
  exact ⟨by rw [HA.out];rfl,mB⟩
 ·have HA:=Lib.hid h2
  have hd:decide (0≤Rx g l) = true:=decide_eq_true (by omega)
  clear h1 h2
  go_wp2
  go_ret
  exact ⟨by rw [HA.out];rfl,mB⟩
def RH (most:Int) (c:qW):Bool:=!ou c.f0.f0 c.f0.f1 (-most) most || !ou c.f1.f0 c.f1.f1 (-most) most
set_option maxRecDepth 100000 in
set_option maxHeartbeats 2000000 in
theorem anr (g1:Nat) (s:fT) (A7 A8:Option Addr) (c7 c8:Nat) (c:qW) (w:World) (hm0:0≤s.most) (hm1:s.most≤5000) (hB:aZ w g1 #[Z ab s.nx,Z ab s.ny,Z ab s.cell,Z ab s.slot,Z ab s.slots,Z ab s.layers,Z ab s.most,.slice A7 s.shores.length c7,.slice A8 s.currents.length c8] 25):
 Calls Try.prog 76 #[.agg #[Z ab c.f0.f0,Z ab c.f0.f1,Z ab c.f1.f0,Z ab c.f1.f1],.pointer (some ⟨g1,0,none⟩)] w (oo (.bool (RH s.most c)) w):=by
 have avP:=Try.underlying40
 have mE:=Try.underlying27
 have HB:Hid (RH s.most c = (!ou c.f0.f0 c.f0.f1 (-s.most) s.most || !ou c.f1.f0 c.f1.f1 (-s.most) s.most)):=Lib.hid rfl
 have c6:∀ o_,(w.alloc o_).cell? ⟨g1,6,none⟩ = some (Z ab s.most):=fun o_=>(ae (aa hB o_) 6).trans rfl
 go_enter Try.func76,Try.ntmps76
 go_wp2_with fail
 clear c6
 have m1:=hB
 clear hB
 have aFF:=aD m1
 have m2:aZ (w.alloc (.cells #[Z ab c.f0.f0,Z ab c.f0.f1,Z ab c.f1.f0,Z ab c.f1.f1] 40)) (w.heap.size) #[Z ab c.f0.f0,Z ab c.f0.f1,Z ab c.f1.f0,Z ab c.f1.f1] 40:=(by have h_:=bB w (.cells #[Z ab c.f0.f0,Z ab c.f0.f1,Z ab c.f1.f0,Z ab c.f1.f1] 40);first|exact h_|(simp only [World.size_alloc] at h_;exact h_))
 replace m1:aZ (w.alloc (.cells #[Z ab c.f0.f0,Z ab c.f0.f1,Z ab c.f1.f0,Z ab c.f1.f1] 40)) g1 #[Z ab s.nx,Z ab s.ny,Z ab s.cell,Z ab s.slot,Z ab s.slots,Z ab s.layers,Z ab s.most,.slice A7 s.shores.length c7,.slice A8 s.currents.length c8] 25:=(aa m1 _)
 have mB:Below w.heap.size w (w.alloc (.cells #[Z ab c.f0.f0,Z ab c.f0.f1,Z ab c.f1.f0,Z ab c.f1.f1] 40)):=(ai (Below.refl w.heap.size w) _)
 have dU:w.heap.size≤w.heap.size:=Nat.le_refl _
 generalize jq:(w.alloc (.cells #[Z ab c.f0.f0,Z ab c.f0.f1,Z ab c.f1.f0,Z ab c.f1.f1] 40)) = W1 at m1 m2 mB ⊢
 clear jq
 generalize hg2:w.heap.size = g2 at m2 ⊢
 have aqy:g1≠g2:=by omega
 have aFG:g2≠g1:=aqy.symm
 have hG2:w.heap.size≤g2:=by omega
 clear dU aFF
 try clear hg2
 have lC:w.heap.size≤W1.heap.size:=mB.size
 have hcon:=ME c.f0.f0 c.f0.f1 (-s.most) s.most W1
 (with_reducible refine hcon.mono ?_)
 clear hcon
 rintro e W2 ⟨rfl,hb⟩
 replace m1:=af m1 hb
 replace m2:=af m2 hb
 replace mB:=aJ mB hb
 clear hb
 have mY:w.heap.size≤W2.heap.size:=mB.size
 cases h0:ou c.f0.f0 c.f0.f1 (-s.most) s.most with
 |false =>
  have HR:=Lib.hid (HB.out.trans (by rw [h0];rfl:_ = true))
  clear h0 HB
  go_wp2
  go_ret
  exact ⟨BU,mB⟩
 |true =>
  have H0:=Lib.hid h0
  clear h0
  obtain ⟨ao7,ao8,ao9,apa⟩:=mH m2
  have c6:=(ae m1 6).trans rfl
  go_wp2_with fail
  clear ao7 ao8 ao9 apa c6
  have hcon:=ME c.f1.f0 c.f1.f1 (-s.most) s.most W2
  (with_reducible refine hcon.mono ?_)
  clear hcon
  rintro e W3 ⟨rfl,hb⟩
  replace m1:=af m1 hb
  replace m2:=af m2 hb
  replace mB:=aJ mB hb
  clear hb
  have uY:w.heap.size≤W3.heap.size:=mB.size
  cases h1:ou c.f1.f0 c.f1.f1 (-s.most) s.most with
  |false =>
   have HR:=Lib.hid (HB.out.trans (by rw [H0.out,h1];rfl:_ = true))
   clear h1 HB
   go_wp2
   go_ret
   exact ⟨BU,mB⟩
  |true =>
   have HR:=Lib.hid (HB.out.trans (by rw [H0.out,h1];rfl:_ = false))
   clear h1 HB
   go_wp2
   go_ret
   exact ⟨BU,mB⟩
def RG (s:fT):Bool:=iR s.nx 1 12 && iR s.ny 1 12 && iR s.cell 100 65536 && iR s.slot 1 1048576 && iR s.slots 1 16 && iR s.layers 1 3 && iR s.most 0 5000 && decide ((s.shores.length:Int) = s.nx*s.ny) && decide ((s.currents.length:Int) = s.slots*s.layers*(s.nx*s.ny)) && !s.currents.any (RH s.most)
def rE (s:fT):Int:=if RG s then 0 else 2
set_option maxRecDepth 100000 in
set_option maxHeartbeats 8000000 in
theorem ady (s:fT) (A7 A8:Option Addr) (c7 c8:Nat) (w:World) (h7:s.shores.length≤c7) (Ry:Kd.C Kd.bool w A7 s.shores.length s.shores) (h8:s.currents.length≤c8) (JL:Kd.C Cm w A8 s.currents.length s.currents):
 Calls Try.prog 25 #[.agg #[Z ab s.nx,Z ab s.ny,Z ab s.cell,Z ab s.slot,Z ab s.slots,Z ab s.layers,Z ab s.most,.slice A7 s.shores.length c7,.slice A8 s.currents.length c8]] w (oo (Z ab (rE s)) w):=by
 have Cn:=Try.underlying25
 have hb7:=Ry.2.1
 have hb8:=JL.2.1
 have HE:Hid (rE s = if RG s then 0 else 2):=Lib.hid rfl
 have HB:Hid (RG s = (iR s.nx 1 12 && iR s.ny 1 12 && iR s.cell 100 65536 && iR s.slot 1 1048576 && iR s.slots 1 16 && iR s.layers 1 3 && iR s.most 0 5000 && decide ((s.shores.length:Int) = s.nx*s.ny) && decide ((s.currents.length:Int) = s.slots*s.layers*(s.nx*s.ny)) && !s.currents.any (RH s.most))):=Lib.hid rfl
 go_enter Try.func25,Try.ntmps25
 go_wp2_with fail
 have m1:aZ (w.alloc (.cells #[Z ab s.nx,Z ab s.ny,Z ab s.cell,Z ab s.slot,Z ab s.slots,Z ab s.layers,Z ab s.most,.slice A7 s.shores.length c7,.slice A8 s.currents.length c8] 25)) (w.heap.size) #[Z ab s.nx,Z ab s.ny,Z ab s.cell,Z ab s.slot,Z ab s.slots,Z ab s.layers,Z ab s.most,.slice A7 s.shores.length c7,.slice A8 s.currents.length c8] 25:=RI
 have mB:Below w.heap.size w (w.alloc (.cells #[Z ab s.nx,Z ab s.ny,Z ab s.cell,Z ab s.slot,Z ab s.slots,Z ab s.layers,Z ab s.most,.slice A7 s.shores.length c7,.slice A8 s.currents.length c8] 25)):=(ai (Below.refl w.heap.size w) _)
 have dU:w.heap.size≤w.heap.size:=Nat.le_refl _
 generalize jq:(w.alloc (.cells #[Z ab s.nx,Z ab s.ny,Z ab s.cell,Z ab s.slot,Z ab s.slots,Z ab s.layers,Z ab s.most,.slice A7 s.shores.length c7,.slice A8 s.currents.length c8] 25)) = W0 at m1 mB ⊢
 clear jq
 generalize hg1:w.heap.size = g1 at m1 ⊢
 have hG1:w.heap.size≤g1:=by omega
 clear dU
 try clear hg1
 have pI:w.heap.size≤W0.heap.size:=mB.size
 have hcon:=uP s.nx 1 12 W0
 (with_reducible refine hcon.mono ?_)
 clear hcon
 rintro e W1 ⟨rfl,hb⟩
 replace m1:=af m1 hb
 replace mB:=aJ mB hb
 clear hb
 have lC:w.heap.size≤W1.heap.size:=mB.size
 cases h_:iR s.nx 1 12 with
 |false =>
  have HZ:Hid (rE s = 2):=Lib.hid (by rw [HE.out,HB.out,h_];simp)
  clear h_ HE HB
  go_wp2
  go_ret
  exact ⟨jD,mB⟩
 |true =>
  have b0:=dR.1 h_
  have H0:=Lib.hid h_
  clear h_
  obtain ⟨CB,CE,CF,CG,FJ,FL,FM,FN,FO⟩:=EW m1
  go_wp2_with fail
  clear CB CE CF CG FJ FL FM FN FO
  have hcon:=uP s.ny 1 12 W1
  (with_reducible refine hcon.mono ?_)
  clear hcon
  rintro e W2 ⟨rfl,hb⟩
  replace m1:=af m1 hb
  replace mB:=aJ mB hb
  clear hb
  have mY:w.heap.size≤W2.heap.size:=mB.size
  cases h_:iR s.ny 1 12 with
  |false =>
   have HZ:Hid (rE s = 2):=Lib.hid (by rw [HE.out,HB.out,H0.out,h_];simp)
   clear h_ HE HB
   go_wp2
   go_ret
   exact ⟨jD,mB⟩
  |true =>
   have b1:=dR.1 h_
   have H1:=Lib.hid h_
   clear h_
   obtain ⟨CB,CE,CF,CG,FJ,FL,FM,FN,FO⟩:=EW m1
   go_wp2_with fail
   clear CB CE CF CG FJ FL FM FN FO
   have hcon:=uP s.cell 100 65536 W2
   (with_reducible refine hcon.mono ?_)
   clear hcon
   rintro e W3 ⟨rfl,hb⟩
   replace m1:=af m1 hb
   replace mB:=aJ mB hb
   clear hb
   have uY:w.heap.size≤W3.heap.size:=mB.size
   cases h_:iR s.cell 100 65536 with
   |false =>
    have HZ:Hid (rE s = 2):=Lib.hid (by rw [HE.out,HB.out,H0.out,H1.out,h_];simp)
    clear h_ HE HB
    go_wp2
    go_ret
    exact ⟨jD,mB⟩
   |true =>
    have b2:=dR.1 h_
    have H2:=Lib.hid h_
    clear h_
    obtain ⟨CB,CE,CF,CG,FJ,FL,FM,FN,FO⟩:=EW m1
    go_wp2_with fail
    clear CB CE CF CG FJ FL FM FN FO
    have hcon:=uP s.slot 1 1048576 W3
    (with_reducible refine hcon.mono ?_)
    clear hcon
    rintro e W4 ⟨rfl,hb⟩
    replace m1:=af m1 hb
    replace mB:=aJ mB hb
    clear hb
    have E5:w.heap.size≤W4.heap.size:=mB.size
    cases h_:iR s.slot 1 1048576 with
    |false =>
     have HZ:Hid (rE s = 2):=Lib.hid (by rw [HE.out,HB.out,H0.out,H1.out,H2.out,h_];simp)
     clear h_ HE HB
     go_wp2
     go_ret
     exact ⟨jD,mB⟩
    |true =>
     have b3:=dR.1 h_
     have H3:=Lib.hid h_
     clear h_
     obtain ⟨CB,CE,CF,CG,FJ,FL,FM,FN,FO⟩:=EW m1
     go_wp2_with fail
     clear CB CE CF CG FJ FL FM FN FO
     have hcon:=uP s.slots 1 16 W4
     (with_reducible refine hcon.mono ?_)
     clear hcon
     rintro e W5 ⟨rfl,hb⟩
     replace m1:=af m1 hb
     replace mB:=aJ mB hb
     clear hb
     have E8:w.heap.size≤W5.heap.size:=mB.size
     cases h_:iR s.slots 1 16 with
     |false =>
      have HZ:Hid (rE s = 2):=Lib.hid (by rw [HE.out,HB.out,H0.out,H1.out,H2.out,H3.out,h_];simp)
      clear h_ HE HB
      go_wp2
      go_ret
      exact ⟨jD,mB⟩
     |true =>
      have b4:=dR.1 h_
      have H4:=Lib.hid h_
      clear h_
      obtain ⟨CB,CE,CF,CG,FJ,FL,FM,FN,FO⟩:=EW m1
      go_wp2_with fail
      clear CB CE CF CG FJ FL FM FN FO
      have hcon:=uP s.layers 1 3 W5
      (with_reducible refine hcon.mono ?_)
      clear hcon
      rintro e W6 ⟨rfl,hb⟩
      replace m1:=af m1 hb
      replace mB:=aJ mB hb
      clear hb
      have asZ:w.heap.size≤W6.heap.size:=mB.size
      cases h_:iR s.layers 1 3 with
      |false =>
       have HZ:Hid (rE s = 2):=Lib.hid (by rw [HE.out,HB.out,H0.out,H1.out,H2.out,H3.out,H4.out,h_];simp)
       clear h_ HE HB
       go_wp2
       go_ret
       exact ⟨jD,mB⟩
      |true =>
       have b5:=dR.1 h_
       have H5:=Lib.hid h_
       clear h_
       obtain ⟨CB,CE,CF,CG,FJ,FL,FM,FN,FO⟩:=EW m1
       go_wp2_with fail
       clear CB CE CF CG FJ FL FM FN FO
       have hcon:=uP s.most 0 5000 W6
       (with_reducible refine hcon.mono ?_)
       clear hcon
       rintro e W7 ⟨rfl,hb⟩
       replace m1:=af m1 hb
       replace mB:=aJ mB hb
       clear hb
       have aol:w.heap.size≤W7.heap.size:=mB.size
       cases h_:iR s.most 0 5000 with
       |false =>
        have HZ:Hid (rE s = 2):=Lib.hid (by rw [HE.out,HB.out,H0.out,H1.out,H2.out,H3.out,H4.out,H5.out,h_];simp)
        clear h_ HE HB
        go_wp2
        go_ret
        exact ⟨jD,mB⟩
       |true =>
        have b6:=dR.1 h_
        have H6:=Lib.hid h_
        clear h_
        have p1:=jy (show 0≤s.nx by omega) b0.2 (show 0≤s.ny by omega) b1.2
        have p2:=jy (show 0≤s.slots by omega) b4.2 (show 0≤s.layers by omega) b5.2
        have p3:=jy p2.1 p2.2 p1.1 p1.2
        have e1:wrap64 (s.nx*s.ny) = s.nx*s.ny:=by unfold wrap64;omega
        have HN:=Lib.hid e1
        try rw [e1]
        clear e1
        by_cases q7:(s.shores.length:Int) = s.nx*s.ny
        case neg =>
         have h_:decide ((s.shores.length:Int) = s.nx*s.ny) = false:=decide_eq_false q7
         have e_:((s.shores.length:Int) == s.nx*s.ny) = false:=beq_eq_false_iff_ne.2 q7
         have e2_:((s.shores.length:Int) != s.nx*s.ny) = true:=by rw [bne,e_];rfl
         clear q7
         obtain ⟨CB,CE,CF,CG,FJ,FL,FM,FN,FO⟩:=EW m1
         have HZ:Hid (rE s = 2):=Lib.hid (by rw [HE.out,HB.out,H0.out,H1.out,H2.out,H3.out,H4.out,H5.out,H6.out,h_];simp)
         clear h_ HE HB
         go_wp2
         go_ret
         exact ⟨jD,mB⟩
        case pos =>
         have h_:decide ((s.shores.length:Int) = s.nx*s.ny) = true:=decide_eq_true q7
         have H7:=Lib.hid h_
         have f7:((s.shores.length:Int) == s.nx*s.ny) = true:=beq_iff_eq.2 q7
         have g7:((s.shores.length:Int) != s.nx*s.ny) = false:=by rw [bne,f7];rfl
         clear h_ q7
         by_cases q8:(s.currents.length:Int) = s.slots*s.layers*(s.nx*s.ny)
         case neg =>
          have h_:decide ((s.currents.length:Int) = s.slots*s.layers*(s.nx*s.ny)) = false:=decide_eq_false q8
          have e_:((s.currents.length:Int) == s.slots*s.layers*(s.nx*s.ny)) = false:=beq_eq_false_iff_ne.2 q8
          have e2_:((s.currents.length:Int) != s.slots*s.layers*(s.nx*s.ny)) = true:=by rw [bne,e_];rfl
          clear q8
          obtain ⟨CB,CE,CF,CG,FJ,FL,FM,FN,FO⟩:=EW m1
          have HZ:Hid (rE s = 2):=Lib.hid (by rw [HE.out,HB.out,H0.out,H1.out,H2.out,H3.out,H4.out,H5.out,H6.out,H7.out,h_];simp)
          clear h_ HE HB
          go_wp2
          go_ret
          exact ⟨jD,mB⟩
         case pos =>
          have h_:decide ((s.currents.length:Int) = s.slots*s.layers*(s.nx*s.ny)) = true:=decide_eq_true q8
          have H8:=Lib.hid h_
          have f8:((s.currents.length:Int) == s.slots*s.layers*(s.nx*s.ny)) = true:=beq_iff_eq.2 q8
          have g8:((s.currents.length:Int) != s.slots*s.layers*(s.nx*s.ny)) = false:=by rw [bne,f8];rfl
          clear h_ q8
          obtain ⟨CB,CE,CF,CG,FJ,FL,FM,FN,FO⟩:=EW m1
          go_wp2_with fail
          clear CB CE CF CG FJ FL FM FN FO
          have hcon:=ac5 76 #[.pointer (some ⟨g1,0,none⟩)] (RH s.most) A8 c8 s.currents W7 (Kd.bD JL mB) h8 (enters_of Try.func76 aT rfl) (fun x W hW=>anr g1 s A7 A8 c7 c8 x W b6.1 b6.2 (af m1 hW))
          (with_reducible refine hcon.mono ?_)
          clear hcon
          rintro e W8 ⟨rfl,hb⟩
          replace m1:=af m1 hb
          replace mB:=aJ mB hb
          clear hb
          have aJJ:w.heap.size≤W8.heap.size:=mB.size
          cases h_:s.currents.any (RH s.most) with
          |true =>
           have HZ:Hid (rE s = 2):=Lib.hid (by rw [HE.out,HB.out,H0.out,H1.out,H2.out,H3.out,H4.out,H5.out,H6.out,H7.out,H8.out,h_];simp)
           clear h_ HE HB
           go_wp2
           go_ret
           exact ⟨jD,mB⟩
          |false =>
           have HZ:Hid (rE s = 0):=Lib.hid (by rw [HE.out,HB.out,H0.out,H1.out,H2.out,H3.out,H4.out,H5.out,H6.out,H7.out,H8.out,h_];simp)
           clear h_ HE HB
           go_wp2
           go_ret
           exact ⟨jD,mB⟩
end Go.Proofs.Ytmhaiihjfgfaoaa.Gl
end
section
namespace Go.Proofs.Ytmhaiihjfgfaoaa.Gl
open Go.RowKit Go.Shelf Go.Proofs.YtmhaiihjfgfaoaaW.PrintWords Go.Proofs.YtmhaiihjfgfaoaaW.PrintLast Go.Proofs.YtmhaiihjfgfaoaaW.PrintMore Go.Proofs.Ytmhaiihjfgfaoaa.Pr Go.Proofs.YtmhaiihjfgfaoaaW.Round
set_option linter.unusedVariables false
set_option linter.unusedSimpArgs false
attribute [local go_sem] dw dx dM dN dz
def PW (x:Int):Int:=x / 1000000
def upM (x:Int):Int:=-((-x) / 1000000)
def jG (dive:Int) (a:gm) (speed:Int) (u:gm):gm:=⟨a.f0+PW ((speed+1000*u.f0)*dive),a.f1+upM ((speed+1000*u.f1)*dive)⟩
theorem iP {a b m n:Int} (h0:-m≤a) (h1:a≤m) (h2:0≤b) (h3:b≤n) (hm:0≤m):-(m*n)≤a*b∧a*b≤m*n:=by
 have k1:=Int.mul_le_mul_of_nonneg_right h1 h2
 have k2:=Int.mul_le_mul_of_nonneg_left h3 hm
 have k3:=Int.mul_le_mul_of_nonneg_right h0 h2
 rw [Int.neg_mul] at k3
 omega
theorem tdm (X:Int):X = 1000000*Int.tdiv X 1000000+Int.tmod X 1000000∧(0≤X→0≤Int.tmod X 1000000∧Int.tmod X 1000000 < 1000000)∧(X < 0→-1000000 < Int.tmod X 1000000∧Int.tmod X 1000000≤0):=by
 refine ⟨(Int.mul_tdiv_add_tmod X 1000000).symm,fun h=>?_,fun h=>?_⟩
 ·rw [Int.tmod_eq_emod_of_nonneg h]
  omega
 ·have e:X = -(-X):=by omega
  rw [e,Int.neg_tmod,Int.tmod_eq_emod_of_nonneg (show 0≤-X by omega)]
  omega
theorem akn {a b c d:Int} (h:a = c) (h2:b = d):Ending.returned (.agg #[Z ab a,Z ab b]) = Ending.returned (.agg #[Z ab c,Z ab d]):=by rw [h,h2]
set_option maxRecDepth 100000 in
set_option maxHeartbeats 4000000 in
theorem R9 (b:Nat) (s:fT) (v:iw) (a:gm) (speed:Int) (u:gm) (w:World) (hT:dZ w b s v) (hV:uF v) (ha0:-1099511627776≤a.f0∧a.f0≤1099511627776) (ha1:-1099511627776≤a.f1∧a.f1≤1099511627776) (hs0:-5000000≤speed∧speed≤5000000) (hu0:-5000≤u.f0∧u.f0≤5000) (hu1:-5000≤u.f1∧u.f1≤5000):
 Calls Try.prog 131 #[.pointer (some ⟨b,0,none⟩),.agg #[Z ab a.f0,Z ab a.f1],Z ab speed,.agg #[Z ab u.f0,Z ab u.f1]] w (oo (.agg #[Z ab (jG v.dive a speed u).f0,Z ab (jG v.dive a speed u).f1]) w):=by
 have mE:=Try.underlying27
 obtain ⟨A7,c7,A8,c8,hB,_⟩:=hT
 have hd:=hV.dive
 have m0:=iP (a:=speed+1000*u.f0) (b:=v.dive) (m:=10000000) (n:=131072) (by omega) (by omega) (by omega) (by omega) (by omega)
 have m1:=iP (a:=speed+1000*u.f1) (b:=v.dive) (m:=10000000) (n:=131072) (by omega) (by omega) (by omega) (by omega) (by omega)
 clear hV
 have HR:Hid (jG v.dive a speed u = ⟨a.f0+PW ((speed+1000*u.f0)*v.dive),a.f1+upM ((speed+1000*u.f1)*v.dive)⟩):=Lib.hid rfl
 go_enter Try.func131,Try.ntmps131
 go_wp2_with fail
 have mT:=hB
 clear hB
 have mF:=aD mT
 have m5:aZ (((w.alloc (.cells #[Z ab a.f0,Z ab a.f1] 27)).alloc (.cells #[Z ab u.f0,Z ab u.f1] 27)).alloc (.cells #[Z ab 0,Z ab 0] 27)) (w.heap.size) #[Z ab a.f0,Z ab a.f1] 27:=(aa (aa arW _) _)
 have m7:aZ (((w.alloc (.cells #[Z ab a.f0,Z ab a.f1] 27)).alloc (.cells #[Z ab u.f0,Z ab u.f1] 27)).alloc (.cells #[Z ab 0,Z ab 0] 27)) (w.heap.size+1) #[Z ab u.f0,Z ab u.f1] 27:=(aa (by have h_:=bB (w.alloc (.cells #[Z ab a.f0,Z ab a.f1] 27)) (.cells #[Z ab u.f0,Z ab u.f1] 27);first|exact h_|(simp only [World.size_alloc] at h_;exact h_)) _)
 have m8:aZ (((w.alloc (.cells #[Z ab a.f0,Z ab a.f1] 27)).alloc (.cells #[Z ab u.f0,Z ab u.f1] 27)).alloc (.cells #[Z ab 0,Z ab 0] 27)) (w.heap.size+1+1) #[Z ab 0,Z ab 0] 27:=(by have h_:=bB ((w.alloc (.cells #[Z ab a.f0,Z ab a.f1] 27)).alloc (.cells #[Z ab u.f0,Z ab u.f1] 27)) (.cells #[Z ab 0,Z ab 0] 27);first|exact h_|(simp only [World.size_alloc] at h_;exact h_))
 replace mT:aZ (((w.alloc (.cells #[Z ab a.f0,Z ab a.f1] 27)).alloc (.cells #[Z ab u.f0,Z ab u.f1] 27)).alloc (.cells #[Z ab 0,Z ab 0] 27)) b #[Z ab s.nx,Z ab s.ny,Z ab s.cell,Z ab s.slot,Z ab s.slots,Z ab s.layers,Z ab s.most,.slice A7 s.shores.length c7,.slice A8 s.currents.length c8,Z ab v.speed,Z ab v.dive,Z ab v.use.f0,Z ab v.use.f1,Z ab v.drift.f0,Z ab v.drift.f1,Z ab v.reserve] 110:=(aa (aa (aa mT _) _) _)
 have mB:Below w.heap.size w (((w.alloc (.cells #[Z ab a.f0,Z ab a.f1] 27)).alloc (.cells #[Z ab u.f0,Z ab u.f1] 27)).alloc (.cells #[Z ab 0,Z ab 0] 27)):=(ai (ai (ai (Below.refl w.heap.size w) _) _) _)
 have dU:w.heap.size≤w.heap.size:=Nat.le_refl _
 generalize jq:(((w.alloc (.cells #[Z ab a.f0,Z ab a.f1] 27)).alloc (.cells #[Z ab u.f0,Z ab u.f1] 27)).alloc (.cells #[Z ab 0,Z ab 0] 27)) = W1 at mT m5 m7 m8 mB ⊢
 clear jq
 generalize hg5:w.heap.size = g5 at m5 m7 m8 ⊢
 have Fj:b≠g5:=by omega
 have Tp:g5≠b:=Fj.symm
 have Yd:w.heap.size≤g5:=by omega
 generalize hg7:g5+1 = g7 at m7 m8 ⊢
 have pq:b≠g7:=by omega
 have Cg:g5≠g7:=by omega
 have PS:g7≠b:=pq.symm
 have TJ:g7≠g5:=Cg.symm
 have hG7:w.heap.size≤g7:=by omega
 generalize hg8:g7+1 = g8 at m8 ⊢
 have vz:b≠g8:=by omega
 have JV:g5≠g8:=by omega
 have oq:g7≠g8:=by omega
 have UH:g8≠b:=vz.symm
 have abu:g8≠g5:=JV.symm
 have iY:g8≠g7:=oq.symm
 have Sa:w.heap.size≤g8:=by omega
 clear dU mF
 try clear hg8
 try clear hg7
 try clear hg5
 have lC:w.heap.size≤W1.heap.size:=mB.size
 replace mT:=au mT
 replace m5:=au m5
 replace m7:=au m7
 replace m8:=au m8
 replace mB:=bf mB
 have avU:wrap64 (1000*u.f0) = 1000*u.f0:=by unfold wrap64;omega
 have avV:wrap64 (speed+1000*u.f0) = speed+1000*u.f0:=by unfold wrap64;omega
 have avW:wrap64 ((speed+1000*u.f0)*v.dive) = (speed+1000*u.f0)*v.dive:=by unfold wrap64;omega
 have avX:wrap64 (1000*u.f1) = 1000*u.f1:=by unfold wrap64;omega
 have avY:wrap64 (speed+1000*u.f1) = speed+1000*u.f1:=by unfold wrap64;omega
 have avZ:wrap64 ((speed+1000*u.f1)*v.dive) = (speed+1000*u.f1)*v.dive:=by unfold wrap64;omega
 refine lh (n:=25) (S:=fun w'=>w'.cell? ⟨g7,0,none⟩ = some (Z ab u.f0)∧w'.cell? ⟨g7,1,none⟩ = some (Z ab u.f1)∧w'.cell? ⟨g5,0,none⟩ = some (Z ab a.f0)∧w'.cell? ⟨g5,1,none⟩ = some (Z ab a.f1)∧w'.cell? ⟨b,10,none⟩ = some (Z ab v.dive)) (ds:=[24]) #[al,al,al,al,al,al,al,al,al,al,al,al,al,al,al,al,al,al,al,al,al,al,al,al,al] aT rfl rfl ⟨((ae m7 0).trans rfl),((ae m7 1).trans rfl),((ae m5 0).trans rfl),((ae m5 1).trans rfl),((ae mT 10).trans rfl)⟩ (fun hHeld=>?_)
 generalize hWd:World.drew _ = Wx at mB mT m5 m7 m8 hHeld ⊢
 clear hWd
 refine dG (i:=0) (N:=some 12) aT ?_
 refine dG (i:=1) (N:=some 13) aT ?_
 refine dG (i:=5) (N:=some 17) aT ?_
 refine dG (i:=6) (N:=some 18) aT ?_
 refine dG (i:=7) (N:=some 19) aT ?_
 refine dG (i:=8) (N:=some 20) aT ?_
 refine dG (i:=11) (N:=some 23) aT ?_
 refine dG (i:=12) (N:=some 24) aT ?_
 refine dG (i:=16) (N:=some 28) aT ?_
 refine dG (i:=17) (N:=some 29) aT ?_
 refine dG (i:=18) (N:=some 30) aT ?_
 refine dG (i:=19) (N:=some 31) aT ?_
 refine iy (i:=2) (N:=some 14) aT hHeld ?_
 refine dG (i:=3) (N:=some 15) aT ?_
 refine dG (i:=4) (N:=some 16) aT ?_
 refine iy (i:=9) (N:=some 21) aT hHeld ?_
 refine dG (i:=10) (N:=some 22) aT ?_
 refine iy (i:=13) (N:=some 25) aT hHeld ?_
 refine dG (i:=14) (N:=some 26) aT ?_
 refine dG (i:=15) (N:=some 27) aT ?_
 refine iy (i:=20) (N:=some 32) aT hHeld ?_
 refine dG (i:=21) (N:=some 33) aT ?_
 refine dG (i:=22) (N:=some 34) aT ?_
 refine jC (i:=23) (N:=some 9) #[ac,ac,ac,ac,ac,ac,ac,ac,ac,ac,ac,ac,ac,ac,ac,ac,ac,ac,ac,ac,ac,ac,ac,ac,al] rfl rfl aT (by decide) (fun K hK=>?_)
 refine zL (w1:=?_) (v:=?_) (by rfl) rfl ?_ ?_
 rotate_left 2
 ·go_simp
  constructor
  ·rfl
  ·rfl
 refine hK.out _ _ ⟨((ae (aa m7 (.cells #[Z ab 0,Z ab 0] 27)) 0).trans rfl),((ae (aa m7 (.cells #[Z ab 0,Z ab 0] 27)) 1).trans rfl),((ae (aa m5 (.cells #[Z ab 0,Z ab 0] 27)) 0).trans rfl),((ae (aa m5 (.cells #[Z ab 0,Z ab 0] 27)) 1).trans rfl),((ae (aa mT (.cells #[Z ab 0,Z ab 0] 27)) 10).trans rfl)⟩ (fun hHeld=>?_)
 clear hK K
 refine dY arX ?_
 refine yt (i:=24) (N:=none) #[ac,ac,ac,ac,ac,ac,ac,ac,ac,ac,ac,ac,ac,ac,ac,ac,ac,ac,ac,ac,ac,ac,ac,ac,ac] rfl rfl aT (by decide) (fun K hK=>?_)
 have FQ:=bB Wx (.cells #[Z ab 0,Z ab 0] 27)
 have Cb:=aK FQ 0
 have Fs:=aK FQ 1
 have zM:=(ae FQ 0).trans rfl
 have Fu:=(ae FQ 1).trans rfl
 refine qp (w1:=?_) (by rfl) rfl ?_ ?_
 rotate_left
 ·go_simp
  rfl
 clear FQ Cb Fs zM Fu
 refine hK.out _ _ ?_
 clear hK K
 refine ma aT ?_
 clear avU avV avW
 clear avX avY avZ
 have Yf:w.heap.size≤Wx.heap.size:=mB.size
 have mF:=aD mT
 have uj:=aD m5
 have uZ:=aD m7
 have xU:=aD m8
 have m9:aZ (Wx.alloc (.cells #[Z ab ((speed+1000*u.f0)*v.dive),Z ab ((speed+1000*u.f1)*v.dive)] 27)) (Wx.heap.size) #[Z ab ((speed+1000*u.f0)*v.dive),Z ab ((speed+1000*u.f1)*v.dive)] 27:=(by have h_:=bB Wx (.cells #[Z ab ((speed+1000*u.f0)*v.dive),Z ab ((speed+1000*u.f1)*v.dive)] 27);first|exact h_|(simp only [World.size_alloc] at h_;exact h_))
 replace mT:aZ (Wx.alloc (.cells #[Z ab ((speed+1000*u.f0)*v.dive),Z ab ((speed+1000*u.f1)*v.dive)] 27)) b #[Z ab s.nx,Z ab s.ny,Z ab s.cell,Z ab s.slot,Z ab s.slots,Z ab s.layers,Z ab s.most,.slice A7 s.shores.length c7,.slice A8 s.currents.length c8,Z ab v.speed,Z ab v.dive,Z ab v.use.f0,Z ab v.use.f1,Z ab v.drift.f0,Z ab v.drift.f1,Z ab v.reserve] 110:=(aa mT _)
 replace m5:aZ (Wx.alloc (.cells #[Z ab ((speed+1000*u.f0)*v.dive),Z ab ((speed+1000*u.f1)*v.dive)] 27)) g5 #[Z ab a.f0,Z ab a.f1] 27:=(aa m5 _)
 replace m7:aZ (Wx.alloc (.cells #[Z ab ((speed+1000*u.f0)*v.dive),Z ab ((speed+1000*u.f1)*v.dive)] 27)) g7 #[Z ab u.f0,Z ab u.f1] 27:=(aa m7 _)
 replace m8:aZ (Wx.alloc (.cells #[Z ab ((speed+1000*u.f0)*v.dive),Z ab ((speed+1000*u.f1)*v.dive)] 27)) g8 #[Z ab 0,Z ab 0] 27:=(aa m8 _)
 replace mB:Below w.heap.size w (Wx.alloc (.cells #[Z ab ((speed+1000*u.f0)*v.dive),Z ab ((speed+1000*u.f1)*v.dive)] 27)):=(ai mB _)
 have dU:w.heap.size≤Wx.heap.size:=Yf
 generalize jq:(Wx.alloc (.cells #[Z ab ((speed+1000*u.f0)*v.dive),Z ab ((speed+1000*u.f1)*v.dive)] 27)) = W2 at mT m5 m7 m8 m9 mB ⊢
 clear jq
 generalize hg9:Wx.heap.size = g9 at m9 ⊢
 have Ce:b≠g9:=by omega
 have abz:g5≠g9:=by omega
 have xS:g7≠g9:=by omega
 have KO:g8≠g9:=by omega
 have TF:g9≠b:=Ce.symm
 have apc:g9≠g5:=abz.symm
 have PT:g9≠g7:=xS.symm
 have abP:g9≠g8:=KO.symm
 have hG9:w.heap.size≤g9:=by omega
 clear dU mF uj uZ xU
 try clear hg9
 have mY:w.heap.size≤W2.heap.size:=mB.size
 have t0:=tdm ((speed+1000*u.f0)*v.dive)
 have t1:=tdm ((speed+1000*u.f1)*v.dive)
 generalize (speed+1000*u.f0)*v.dive = X at*
 generalize (speed+1000*u.f1)*v.dive = Y at*
 generalize hq0:Int.tdiv X 1000000 = q0 at*
 generalize hr0:Int.tmod X 1000000 = r0 at*
 generalize hq1:Int.tdiv Y 1000000 = q1 at*
 generalize hr1:Int.tmod Y 1000000 = r1 at*
 have bq0:-10000000000000≤q0∧q0≤10000000000000:=by omega
 have bq1:-10000000000000≤q1∧q1≤10000000000000:=by omega
 have T0:=Lib.hid t0
 have T1:=Lib.hid t1
 clear t0 t1
 obtain ⟨yn,zG⟩:=F8 m5
 obtain ⟨JS,JU⟩:=F8 m9
 obtain ⟨yz,F7,ara,arb⟩:=iq m8
 go_wp2_with fail
 go_quiet (fail)
 clear hq0 hq1
 go_wp2
 all_goals
  have t0:=T0.out
  have t1:=T1.out
  try simp only [bne_iff_ne,ne_eq,bne_eq_false_iff_eq] at*
  exact bodyPost_ret (results_cell_row rfl _ _ g8 27 #[_,_] (0,0) _ rfl (az (az (aA m8 _) 0 _ rfl) 1 _ rfl) Try.underlying27 rfl aT) rfl ⟨akn (by rw [HR.out];unfold PW;dsimp only;omega) (by rw [HR.out];unfold upM;dsimp only;omega),(((iW mB) _).setCell Sa _).setCell Sa _⟩
end Go.Proofs.Ytmhaiihjfgfaoaa.Gl
end
section
namespace Go.Proofs.Ytmhaiihjfgfaoaa.Gl
open Go.RowKit Go.Shelf Go.Proofs.YtmhaiihjfgfaoaaW.PrintWords Go.Proofs.YtmhaiihjfgfaoaaW.PrintLast Go.Proofs.YtmhaiihjfgfaoaaW.PrintMore Go.Proofs.Ytmhaiihjfgfaoaa.Pr Go.Proofs.YtmhaiihjfgfaoaaW.Round
set_option linter.unusedVariables false
set_option linter.unusedSimpArgs false
attribute [local go_sem] dw dx dM dN dz
attribute [local go_sem] Oper.semAt_some
def agp (nx i0:Int) (n:Nat) (k:Int):List Int:=(List.range n).map fun j:Nat=>k*nx+(i0+(j:Int))
def allT (nx i0:Int) (n:Nat) (k0:Int) (m:Nat):List Int:=(List.range m).flatMap fun r:Nat=>agp nx i0 n (k0+(r:Int))
def xQ (nx i0:Int) (n:Nat) (k0:Int) (q j:Nat):List Int:=allT nx i0 n k0 q++agp nx i0 j (k0+(q:Int))
theorem ac6 (nx i0:Int) (n:Nat) (k0:Int):xQ nx i0 n k0 0 0 = []:=rfl
theorem Tc (nx i0:Int) (n:Nat) (k0:Int) (q:Nat):xQ nx i0 n k0 q 0 = allT nx i0 n k0 q:=by unfold xQ agp;simp
theorem FP (nx i0:Int) (n:Nat) (k0:Int) (q j:Nat):xQ nx i0 n k0 q (j+1) = xQ nx i0 n k0 q j++[(k0+(q:Int))*nx+(i0+(j:Int))]:=by
 unfold xQ agp
 rw [List.range_succ,List.map_append,List.map_singleton,List.append_assoc]
theorem KY (nx i0:Int) (n:Nat) (k0:Int) (q:Nat):allT nx i0 n k0 (q+1) = xQ nx i0 n k0 q n:=by
 unfold xQ allT
 rw [List.range_succ,List.flatMap_append,List.flatMap_singleton]
theorem aba (nx i0:Int) (n:Nat) (k0:Int):∀ (d q:Nat),allT nx i0 n k0 q <+:allT nx i0 n k0 (q+d)
 |0,q=>List.prefix_refl _
 |d+1,q=>by
  refine (aba nx i0 n k0 d q).trans ?_
  rw [show q+(d+1) = (q+d)+1 by omega,KY]
  exact List.prefix_append _ _
theorem Td {nx i0:Int} {n:Nat} {k0:Int} {m q j:Nat} (hq:q < m) (hj:j≤n):xQ nx i0 n k0 q j <+:allT nx i0 n k0 m:=by
 have h1:xQ nx i0 n k0 q j <+:xQ nx i0 n k0 q n:=by
  unfold xQ
  refine (List.prefix_append_right_inj _).2 ?_
  unfold agp
  refine List.IsPrefix.map _ ?_
  rw [show n = j+(n - j) by omega,List.range_add]
  exact List.prefix_append _ _
 rw [← KY] at h1
 have h2:=aba nx i0 n k0 (m - (q+1)) (q+1)
 rw [show q+1+(m - (q+1)) = m by omega] at h2
 exact h1.trans h2
abbrev yl (s:fT):={ c:Int // 0≤c∧c < s.nx*s.ny }
def pg (s:fT) (x:cZ):List Int:=allT s.nx (oU s.cell x.f0 s.nx).1 ((oU s.cell x.f0 s.nx).2+1 - (oU s.cell x.f0 s.nx).1).toNat (oU s.cell x.f1 s.ny).1 ((oU s.cell x.f1 s.ny).2+1 - (oU s.cell x.f1 s.ny).1).toNat
def agF (s:fT) (x:cZ) (xs:List (yl s)):Prop:=xs.map Subtype.val = pg s x
def aky (s:fT) (x:cZ) (xs:List (yl s)):Prop:=xs.map Subtype.val <+:pg s x
theorem afF {c:Int} {a:gm} {most:Int} (hc:1≤c) (h0:0≤a.f0) (h1:0≤a.f1) (hm:1≤most):(0≤(oU c a most).1∧(oU c a most).1≤most - 1)∧(0≤(oU c a most).2∧(oU c a most).2≤most - 1):=by
 have d0:=JK h0 hc
 have d1:=JK h1 hc
 unfold oU vF
 dsimp only
 split <;> omega
def R6 (s:fT) (x:cZ):Prop:=(0≤x.f0.f0∧x.f0.f0≤1099511627776)∧(0≤x.f0.f1∧x.f0.f1≤1099511627776)∧(0≤x.f1.f0∧x.f1.f0≤1099511627776)∧(0≤x.f1.f1∧x.f1.f1≤1099511627776)
set_option maxHeartbeats 1000000 in
theorem K3 (b:Nat) (x:cZ) (w:World):Calls Try.prog 118 #[.pointer (some ⟨b,0,none⟩),.agg #[Z ab x.f0.f0,Z ab x.f0.f1,Z ab x.f1.f0,Z ab x.f1.f1]] w fun e w'=>e = .returned (.func (.func 135) #[] #[.pointer (some ⟨w.heap.size,0,none⟩),.pointer (some ⟨w.heap.size+1,0,none⟩)])∧w' = (w.alloc (.cells #[.pointer (some ⟨b,0,none⟩)] 104)).alloc (.cells #[Z ab x.f0.f0,Z ab x.f0.f1,Z ab x.f1.f0,Z ab x.f1.f1] 31):=by
 have pG:=Try.underlying31
 go_enter Try.func118,Try.ntmps118
 go_wp2
 go_ret
 exact ⟨rfl,rfl⟩
theorem row_in {nx ny k:Int} (hx:1≤nx) (h0:0≤k) (h1:k≤ny - 1):0≤k*nx∧k*nx≤nx*ny - nx:=by
 refine ⟨Int.mul_nonneg h0 (by omega),?_⟩
 have h:=Int.mul_le_mul_of_nonneg_right h1 (show 0≤nx by omega)
 rw [Int.sub_mul,Int.one_mul,Int.mul_comm ny nx] at h
 exact h
def Env (w0:World) (bp bx b:Nat) (x:cZ) (W:World):Prop:=Below w0.heap.size w0 W∧aZ W bp #[.pointer (some ⟨b,0,none⟩)] 104∧aZ W bx #[Z ab x.f0.f0,Z ab x.f0.f1,Z ab x.f1.f0,Z ab x.f1.f1] 31
theorem Env.below {w0:World} {bp bx b:Nat} {x:cZ} {W W1:World} (h:Env w0 bp bx b x W) (hb:Below W.heap.size W W1):Env w0 bp bx b x W1:=⟨aJ h.1 hb,h.2.1.below hb,h.2.2.below hb⟩
set_option maxRecDepth 100000 in
set_option maxHeartbeats 4000000 in
theorem K6 (n:Nat) (hn:1≤n) (l bp bx:Nat) (w0:World) (b:Nat) (s:fT) (v:iw) (x:cZ) (hT:dZ w0 b s v) (hS:Fg s) (hx:R6 s x) (Kp:World→World→Prop) (hKp:∀ A B,Kp A B→Env w0 bp bx b x A→Env w0 bp bx b x B) (J Jx:List (yl s)→World→Prop)
 (hY:∀ pre c W,J pre W→pre.length < (pg s x).length→YieldAt Fence.wide (n - 1) Try.prog l #[Z ab c.1] W fun e W' =>
  (e = .returned (.bool true)∧J (pre++[c]) W'∧Kp W W')∨(e = .returned (.bool false)∧Jx (pre++[c]) W'))
 (hJa:∀ (f:List (yl s)) W W',J f W→Below W.heap.size W W'→J f W')
 (W:World) (hE:Env w0 bp bx b x W) (h0:J [] W):
 CallsIn Fence.wide n Try.prog 135 #[.func (.yield l) #[] #[],.pointer (some ⟨bp,0,none⟩),.pointer (some ⟨bx,0,none⟩)] W fun e W'=>(∃ v,e = .returned v)∧
  ((∃ xs,agF s x xs∧J xs W')∨(∃ pre,aky s x pre∧Jx pre W')):=by
 have pG:=Try.underlying31
 have mE:=Try.underlying27
 obtain ⟨⟨x0,x1⟩,⟨x2,x3⟩,⟨x4,x5⟩,x6,x7⟩:=hx
 have hcl:=hS.cell
 have hnx:=hS.nx
 have hny:=hS.ny
 have gI:=afF (c:=s.cell) (a:=x.f0) (most:=s.nx) (by omega) x0 x2 hnx.1
 have gK:=afF (c:=s.cell) (a:=x.f1) (most:=s.ny) (by omega) x4 x6 hny.1
 have kN:=fun W (h:dZ W b s v)=>Lp b s v x.f0 s.nx W h hS x0 x1 x2 x3 hnx.1 hnx.2
 have kM:=fun W (h:dZ W b s v)=>Lp b s v x.f1 s.ny W h hS x4 x5 x6 x7 hny.1 hny.2
 have hAll:pg s x = allT s.nx (oU s.cell x.f0 s.nx).1 ((oU s.cell x.f0 s.nx).2+1 - (oU s.cell x.f0 s.nx).1).toNat (oU s.cell x.f1 s.ny).1 ((oU s.cell x.f1 s.ny).2+1 - (oU s.cell x.f1 s.ny).1).toNat:=rfl
 generalize oU s.cell x.f0 s.nx = I at*
 generalize oU s.cell x.f1 s.ny = K at*
 obtain ⟨i0,i1⟩:=I
 obtain ⟨k0,k1⟩:=K
 dsimp only at gI gK kN kM hAll
 obtain ⟨⟨i2,i3⟩,i4,i5⟩:=gI
 obtain ⟨⟨k2,k3⟩,k4,k5⟩:=gK
 have HAll:=Lib.hid hAll
 clear hAll hcl
 have hE0:=hE
 obtain ⟨hb0,mP,mX⟩:=hE0
 obtain ⟨A7,c7,A8,c8,mT,_⟩:=hT.below hb0
 clear hb0
 refine callsIn_of_wp Try.func135 rfl trivial ?_ rfl
 simp only [Try.ntmps135,List.size_toArray,List.length_cons,List.length_nil,Nat.reduceAdd,Nat.reduceSub,Array.replicate_succ,Array.replicate_zero,List.push_toArray,List.append_toArray,List.nil_append,List.cons_append]
 gi_wp2_with fail
 refine oN (wpIn_wide.2 ?_)
 replace mT:=au mT
 replace mP:=au mP
 replace mX:=au mX
 replace h0:=hJa _ _ _ h0 (bf (Below.refl _ _))
 replace hE:=hE.below (bf (Below.refl _ _))
 refine lh (n:=14) (S:=fun w'=>w'.cell? ⟨bp,0,none⟩ = some (.pointer (some ⟨b,0,none⟩))∧w'.cell? ⟨bx,0,none⟩ = some (Z ab x.f0.f0)∧w'.cell? ⟨bx,1,none⟩ = some (Z ab x.f0.f1)∧w'.cell? ⟨b,0,none⟩ = some (Z ab s.nx)) (ds:=[]) #[al,al,al,al,al,al,al,al,al,al,al,al,al,al] aT rfl rfl ⟨((ae mP 0).trans rfl),((ae mX 0).trans rfl),((ae mX 1).trans rfl),((ae mT 0).trans rfl)⟩ (fun hHeld=>?_)
 generalize hWd:World.drew _ = Wx at*
 clear hWd
 refine dG (i:=1) (N:=some 12) aT ?_
 refine iy (i:=0) (N:=some 11) aT hHeld ?_
 refine iy (i:=2) (N:=some 13) aT hHeld ?_
 refine iy (i:=3) (N:=some 14) aT hHeld ?_
 refine dG (i:=4) (N:=some 15) aT ?_
 refine dG (i:=5) (N:=some 16) aT ?_
 refine dG (i:=6) (N:=some 17) aT ?_
 refine iy (i:=7) (N:=some 18) aT hHeld ?_
 refine jC (i:=8) (N:=some 19) #[ac,ac,ac,ac,ac,ac,ac,ac,ac,al,al,al,al,al] rfl rfl aT (by decide) (fun K hK=>?_)
 have eG:=kN Wx (hT.below hE.1)
 refine jm Try.func136 aT rfl #[.pointer (some ⟨b,0,none⟩),.agg #[Z ab x.f0.f0,Z ab x.f0.f1],Z ab s.nx] (by rfl) rfl rfl ET ?_
 with_reducible refine (eG).mono ?_
 rintro e W1 ⟨rfl,hb2⟩
 refine ⟨_,rfl,?_⟩
 clear eG
 replace mT:=af mT hb2
 replace mP:=af mP hb2
 replace mX:=af mX hb2
 replace h0:=hJa _ _ _ h0 hb2
 replace hE:=hE.below hb2
 clear hb2
 refine hK.out _ _ ⟨((ae mP 0).trans rfl),((ae mX 0).trans rfl),((ae mX 1).trans rfl),((ae mT 0).trans rfl)⟩ (fun hHeld=>?_)
 clear hK K
 refine dY (by show Act.put _ (some 19) _ = _;simp only [Act.put,List.setIfInBounds_toArray,List.set_cons_zero,List.set_cons_succ,fe,fo];rfl) ?_
 refine dG (i:=9) (N:=some 10) aT ?_
 refine dG (i:=10) (N:=some 20) aT ?_
 refine dG (i:=11) (N:=some 21) aT ?_
 refine dG (i:=12) (N:=some 4) aT ?_
 refine dG (i:=13) (N:=some 5) aT ?_
 refine ma aT ?_
 refine qo ?_
 gi_wp2_with fail
 refine oN (wpIn_wide.2 ?_)
 replace mT:=au mT
 replace mP:=au mP
 replace mX:=au mX
 replace h0:=hJa _ _ _ h0 (bf (Below.refl _ _))
 replace hE:=hE.below (bf (Below.refl _ _))
 refine lh (n:=14) (S:=fun w'=>w'.cell? ⟨bp,0,none⟩ = some (.pointer (some ⟨b,0,none⟩))∧w'.cell? ⟨bx,2,none⟩ = some (Z ab x.f1.f0)∧w'.cell? ⟨bx,3,none⟩ = some (Z ab x.f1.f1)∧w'.cell? ⟨b,1,none⟩ = some (Z ab s.ny)) (ds:=[]) #[al,al,al,al,al,al,al,al,al,al,al,al,al,al] aT rfl rfl ⟨((ae mP 0).trans rfl),((ae mX 2).trans rfl),((ae mX 3).trans rfl),((ae mT 1).trans rfl)⟩ (fun hHeld=>?_)
 generalize hWd:World.drew _ = Wx at*
 clear hWd
 refine dG (i:=1) (N:=some 24) aT ?_
 refine iy (i:=0) (N:=some 23) aT hHeld ?_
 refine iy (i:=2) (N:=some 25) aT hHeld ?_
 refine iy (i:=3) (N:=some 26) aT hHeld ?_
 refine dG (i:=4) (N:=some 27) aT ?_
 refine dG (i:=5) (N:=some 28) aT ?_
 refine dG (i:=6) (N:=some 29) aT ?_
 refine iy (i:=7) (N:=some 30) aT hHeld ?_
 refine jC (i:=8) (N:=some 31) #[ac,ac,ac,ac,ac,ac,ac,ac,ac,al,al,al,al,al] rfl rfl aT (by decide) (fun K hK=>?_)
 have eG:=kM Wx (hT.below hE.1)
 refine jm Try.func136 aT rfl #[.pointer (some ⟨b,0,none⟩),.agg #[Z ab x.f1.f0,Z ab x.f1.f1],Z ab s.ny] (by rfl) rfl rfl ET ?_
 with_reducible refine (eG).mono ?_
 rintro e W2 ⟨rfl,hb2⟩
 refine ⟨_,rfl,?_⟩
 clear eG
 replace mT:=af mT hb2
 replace mP:=af mP hb2
 replace mX:=af mX hb2
 replace h0:=hJa _ _ _ h0 hb2
 replace hE:=hE.below hb2
 clear hb2
 refine hK.out _ _ ⟨((ae mP 0).trans rfl),((ae mX 2).trans rfl),((ae mX 3).trans rfl),((ae mT 1).trans rfl)⟩ (fun hHeld=>?_)
 clear hK K
 refine dY (by show Act.put _ (some 31) _ = _;simp only [Act.put,List.setIfInBounds_toArray,List.set_cons_zero,List.set_cons_succ,fe,fo];rfl) ?_
 refine dG (i:=9) (N:=some 22) aT ?_
 refine dG (i:=10) (N:=some 32) aT ?_
 refine dG (i:=11) (N:=some 33) aT ?_
 refine dG (i:=12) (N:=some 6) aT ?_
 refine dG (i:=13) (N:=some 7) aT ?_
 refine ma aT ?_
 refine qo ?_
 clear mT mP mX kN kM
 gi_wp2
 gi_loopw [8] (fun i wr=>∃ (q:Nat) (pre:List (yl s)),q≤(k1+1 - k0).toNat∧i = Z ab (k0+(q:Int))∧Hid (pre.map Subtype.val = xQ s.nx i0 (i1+1 - i0).toNat k0 q 0)∧Env w0 bp bx b x wr∧J pre wr) (fun i _=>(k1+1 - intOf i).toNat)
 case atStart=>exact ⟨0,[],Nat.zero_le _,by simp,Lib.hid (by rw [ac6];rfl),hE,h0⟩
 case round =>
  clear hE h0
  obtain ⟨q,pre,hq,rfl,HP,hE,hJs⟩:=hrel
  by_cases hlt:k0+(q:Int)≤k1
  ·gi_wp2
   gi_loopw [9] (fun i wr2=>∃ (j:Nat) (Kj:List (yl s)),j≤(i1+1 - i0).toNat∧i = Z ab (i0+(j:Int))∧Hid (Kj.map Subtype.val = xQ s.nx i0 (i1+1 - i0).toNat k0 q j)∧Env w0 bp bx b x wr2∧J Kj wr2) (fun i _=>(i1+1 - intOf i).toNat)
   case atStart=>exact ⟨0,pre,Nat.zero_le _,by simp,HP,hE,hJs⟩
   case round =>
    clear hE hJs
    obtain ⟨j,Kj,hj,rfl,HQ,hE,hJ2⟩:=hrel
    by_cases hjk:i0+(j:Int)≤i1
    ·have hlen:Kj.length < (pg s x).length:=by
      have h1:=Td (nx:=s.nx) (i0:=i0) (k0:=k0) (show q < (k1+1 - k0).toNat by omega) (show j+1≤(i1+1 - i0).toNat by omega)
      have h2:=h1.length_le
      rw [FP,← HQ.out,← HAll.out] at h2
      simp at h2
      omega
     have hr:=row_in (ny:=s.ny) (k:=k0+(q:Int)) hnx.1 (by omega) (by omega)
     have hxy:=jy (show 0≤s.nx by omega) hnx.2 (show 0≤s.ny by omega) hny.2
     obtain ⟨fn,tmps,assign,body,hy,hR⟩:=hY Kj ⟨(k0+(q:Int))*s.nx+(i0+(j:Int)),by omega,by omega⟩ _ hJ2 hlen
     dsimp only at hy
     have hE0:=hE
     obtain ⟨hb0,mP,_⟩:=hE0
     obtain ⟨A7,c7,A8,c8,mT,_⟩:=hT.below hb0
     clear hb0
     have cP:=(ae mP 0).trans rfl
     have cT:=(ae mT 0).trans rfl
     clear mT mP
     gi_wp2
     refine hR.mono ?_
     rintro e W3 (⟨rfl,hJ3,hk3⟩|⟨rfl,hJx3⟩)
     ·clear cP cT
      have hE3:=hKp _ _ hk3 hE
      clear hk3 hE
      gi_wp2
      go_roundw
      case rel=>exact ⟨j+1,_,by omega,by simp;omega,Lib.hid (by rw [List.map_append,HQ.out,FP];rfl),hE3,hJ3⟩
      case measure=>simp [intOf];omega
     ·gi_wp2
      refine bodyPost_ret (results_none rfl _ _ _) rfl ?_
      refine ⟨⟨_,rfl⟩,.inr ⟨_,?_,hJx3⟩⟩
      show List.map Subtype.val _ <+:_
      rw [List.map_append,HQ.out,List.map_singleton,← FP,HAll.out]
      exact Td (by omega) (by omega)
    ·obtain rfl:j = (i1+1 - i0).toNat:=by omega
     gi_wp2
     go_roundw
     case rel=>exact ⟨q+1,Kj,by omega,by simp;omega,Lib.hid (by rw [HQ.out,Tc,← KY]),hE,hJ2⟩
     case measure=>simp [intOf];omega
  ·obtain rfl:q = (k1+1 - k0).toNat:=by omega
   gi_wp2
   go_end0
   exact ⟨⟨_,rfl⟩,.inl ⟨pre,by unfold agF;rw [HAll.out,HP.out,Tc],hJs⟩⟩
end Go.Proofs.Ytmhaiihjfgfaoaa.Gl
end
