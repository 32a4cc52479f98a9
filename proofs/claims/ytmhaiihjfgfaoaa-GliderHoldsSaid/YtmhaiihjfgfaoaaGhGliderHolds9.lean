import Derived.Test.YtmhaiihjfgfaoaaGhGliderHolds3
import Derived.Test.YtmhaiihjfgfaoaaGhGliderHolds8
import Derived.Test.YtmhaiihjfgfaoaaGhGliderHolds6
section
namespace Go.Proofs.Ytmhaiihjfgfaoaa.Gl
open Go.RowKit Go.Shelf Go.Proofs.YtmhaiihjfgfaoaaW.PrintWords Go.Proofs.YtmhaiihjfgfaoaaW.PrintLast Go.Proofs.YtmhaiihjfgfaoaaW.PrintMore Go.Proofs.Ytmhaiihjfgfaoaa.Pr Go.Proofs.YtmhaiihjfgfaoaaW.Round
set_option linter.unusedVariables false
set_option linter.unusedSimpArgs false
attribute [local go_sem] cz cB dK dL cK
def lG (x lo hi:Int):Bool:=decide (lo≤x) && decide (x≤hi)
theorem iV {x lo hi:Int}:lG x lo hi = true↔lo≤x∧x≤hi:=by unfold lG;simp
theorem CW (x lo hi:Int) (w:World):Calls Try.prog 74 #[.int .i64 x,.int .i64 lo,.int .i64 hi] w (xA (.bool (lG x lo hi)) w) :=
 (bO.calls x lo hi (lG x lo hi) w (by
  unfold bO.f lG
  by_cases h:x ≥ lo
  ·rw [if_pos h,show decide (lo≤x) = true from decide_eq_true h];simp
  ·rw [if_neg h,show decide (lo≤x) = false from decide_eq_false h];simp)).mono fun _ _ h=>⟨h.1,h.2.below⟩
def PX (lo hi:Int):Bool:=!(decide (lo > hi) || decide (lo < -1073741824) || decide (hi > 1073741824))
theorem BJ {lo hi:Int}:PX lo hi = true↔lo≤hi∧-1073741824≤lo∧hi≤1073741824:=by
 unfold PX
 simp only [Bool.not_eq_true',Bool.or_eq_false_iff,decide_eq_false_iff_not]
 omega
theorem X8 (k:Nat) (lo hi:Int):jF.f (k+2) lo hi = some (if PX lo hi then 0 else 2):=by
 unfold jF.f dO.f PX
 simp only [dO.l0,nz]
 by_cases h1:hi < lo
 ·simp [h1]
  try omega
 ·by_cases h2:lo < -1073741824
  ·simp [h1,h2]
   try omega
  ·by_cases h3:1073741824 < hi
   ·simp [h1,h2,h3]
   ·have h3':hi≤1073741824:=by omega
    have h2':-1073741824≤lo:=by omega
    have h1':lo≤hi:=by omega
    simp [h1,h2,h3,wrap64,h3',h2',h1']
def vR (lo hi a b:Int):Bool:=PX lo hi && decide (a≤lo) && decide (hi≤b)
theorem UY (k:Nat) (lo hi a b:Int):bJ.f (k+2) lo hi a b = some (vR lo hi a b):=by
 unfold bJ.f vR
 rw [X8,Option.bind_some]
 cases PX lo hi with
 |false=>rfl
 |true =>
  by_cases h:lo ≥ a
  ·rw [if_pos rfl,if_pos rfl,if_pos h,show decide (a≤lo) = true from decide_eq_true h];simp
  ·rw [if_pos rfl,if_pos rfl,if_neg h,show decide (a≤lo) = false from decide_eq_false h];simp
theorem abe (lo hi a b:Int) (w:World):Calls Try.prog 77 #[.agg #[.int .i64 lo,.int .i64 hi],.int .i64 a,.int .i64 b] w (xA (.bool (vR lo hi a b)) w):=bJ.calls 2 _ _ _ _ _ w (UY 0 lo hi a b)
theorem X9 {α:Type} {p:α→Bool} {l:List α} {k:Nat} {x:α} (hk:l[k]? = some x) (h0:(l.take k).any p = false) (hx:p x = true):l.findIdx? p = some k:=by
 have hlt:=(List.getElem?_eq_some_iff.1 hk).1
 rw [List.findIdx?_eq_some_iff_getElem]
 refine ⟨hlt,by rw [(List.getElem?_eq_some_iff.1 hk).2];exact hx,fun j hj=>?_⟩
 have:=List.any_eq_false.1 h0 l[j] (by rw [List.mem_take_iff_getElem];exact ⟨j,by omega,rfl⟩)
 simpa using this
def Ya {α:Type} (p:α→Bool) (l:List α):Int:=match l.findIdx? p with|none=>-1|some i=>i
theorem afw {α:Type} (p:α→Bool) (l:List α):(Ya p l < 0∧l.any p = false)∨(0≤Ya p l∧l.any p = true):=by
 unfold Ya
 cases h:l.findIdx? p with
 |none =>
  refine .inl ⟨by decide,?_⟩
  rw [List.any_eq_false]
  intro x hx
  have:=List.findIdx?_eq_none_iff.1 h x hx
  simp [this]
 |some i =>
  obtain ⟨h1,h2,_⟩:=List.findIdx?_eq_some_iff_getElem.1 h
  exact .inr ⟨by dsimp only;omega,List.any_eq_true.2 ⟨_,List.getElem_mem h1,h2⟩⟩
section
variable {P:Program} {Q:Exit→Act→World→Prop} {ops:Array Oper}
end
set_option maxRecDepth 100000 in
set_option maxHeartbeats 2000000 in
theorem acK (gs:Nat) (lb:Array Value) (g:nU→Bool) (A:Option Addr) (c:Nat) (l:List nU) (w:World) (hC:Kd.C CY w A l.length l) (hc:l.length≤c)
 (egs:∀ args w,(callFunc gs args).run Try.prog w = .ok (.enter gs args) w)
 (hg:∀ x W,Below w.heap.size w W→Calls Try.prog gs (#[.agg #[.int .i64 x.f0.f0,.int .i64 x.f0.f1,.int .i64 x.f1.f0,.int .i64 x.f1.f1]]++lb) W (xA (.bool (g x)) W)):
 Calls Try.prog 121 #[.slice A l.length c,.func (.func gs) #[] lb] w (xA (.int .i64 (Ya g l)) w):=by
 have aer:=Try.underlying40
 have pK:=Try.underlying27
 have hb:=hC.2.1
 have HI:Hid (Ya g l = match l.findIdx? g with|none=>-1|some i=>(i:Int)):=Lib.hid rfl
 go_enter Try.func121,Try.ntmps121
 go_wp2
 go_loopw [8] (fun i wr=>∃ (k:Nat),k≤l.length∧i = .int .i64 k∧Hid ((l.take k).any g = false)∧Below w.heap.size w wr) (fun i _=>l.length - (intOf i).toNat)
 case atStart=>exact ⟨0,Nat.zero_le _,rfl,Lib.hid (by simp),Below.refl _ _⟩
 case round =>
  obtain ⟨k,hk,rfl,HA,mB⟩:=hrel
  by_cases hlt:k < l.length
  ·obtain ⟨ad,rfl,hx0,hx1,hx2,hx3⟩:=zR hC k (by omega) (by omega)
   simp only [Int.toNat_natCast] at hx0 hx1 hx2 hx3
   replace hx0:=(mB.cell (World.block_lt_of_cell? w _ hx0)).trans hx0
   replace hx1:=(mB.cell (World.block_lt_of_cell? w _ hx1)).trans hx1
   replace hx2:=(mB.cell (World.block_lt_of_cell? w _ hx2)).trans hx2
   replace hx3:=(mB.cell (World.block_lt_of_cell? w _ hx3)).trans hx3
   have hlk:l[k]? = some (aH l (k:Int)):=by simp [aH,List.getD_eq_getElem?_getD,hlt]
   have htk:l.take (k+1) = l.take k++[aH l (k:Int)]:=by rw [List.take_add_one,hlk];rfl
   generalize aH l (k:Int) = x at*
   have HT:=Lib.hid htk
   have HK:=Lib.hid hlk
   clear htk hlk
   go_wp2_with fail
   have hcon:=hg x wr mB
   (with_reducible refine hcon.mono ?_)
   clear hcon hx0 hx1 hx2 hx3
   rintro e W1 ⟨rfl,hb1⟩
   replace mB:=dY mB hb1
   clear hb1
   cases hbx:g x with
   |true =>
    have HE:=Lib.hid (HI.out.trans (by rw [X9 HK.out HA.out hbx]))
    clear hbx
    go_wp2
    go_ret
    exact ⟨by rw [HE.out];rfl,mB⟩
   |false =>
    have HB:=Lib.hid hbx
    clear hbx
    go_wp2
    go_roundw
    case rel=>exact ⟨k+1,by omega,by simp,Lib.hid (by rw [HT.out,List.any_append,HA.out,List.any_cons,HB.out];rfl),mB⟩
    case measure=>simp [intOf];omega
  ·obtain rfl:k = l.length:=by omega
   rw [List.take_length] at HA
   have hn:l.findIdx? g = none:=by
    rw [List.findIdx?_eq_none_iff]
    intro x hx
    have:=List.any_eq_false.1 HA.out x hx
    simpa using this
   have HE:=Lib.hid (HI.out.trans (by rw [hn]))
   clear hn
   go_wp2
   go_ret
   exact ⟨by rw [HE.out];rfl,mB⟩
set_option maxHeartbeats 1000000 in
theorem Yb (gs:Nat) (lb:Array Value) (g:nU→Bool) (A:Option Addr) (c:Nat) (l:List nU) (w:World) (hC:Kd.C CY w A l.length l) (hc:l.length≤c)
 (egs:∀ args w,(callFunc gs args).run Try.prog w = .ok (.enter gs args) w)
 (hg:∀ x W,Below w.heap.size w W→Calls Try.prog gs (#[.agg #[.int .i64 x.f0.f0,.int .i64 x.f0.f1,.int .i64 x.f1.f0,.int .i64 x.f1.f1]]++lb) W (xA (.bool (g x)) W)):
 Calls Try.prog 75 #[.slice A l.length c,.func (.func gs) #[] lb] w (xA (.bool (l.any g)) w):=by
 have hcon:=acK gs lb g A c l w hC hc egs hg
 clear hg egs
 go_enter Try.func75,Try.ntmps75
 go_wp2_with fail
 (with_reducible refine hcon.mono ?_)
 clear hcon
 rintro e W1 ⟨rfl,mB⟩
 rcases afw g l with ⟨h1,h2⟩|⟨h1,h2⟩
 ·have HA:=Lib.hid h2
  have hd:decide (0≤Ya g l) = false:=decide_eq_false (by omega)
  clear h1 h2
  go_wp2
  go_ret
  exact ⟨by rw [HA.out];rfl,mB⟩
 ·have HA:=Lib.hid h2
  have hd:decide (0≤Ya g l) = true:=decide_eq_true (by omega)
  clear h1 h2
  go_wp2
  go_ret
  exact ⟨by rw [HA.out];rfl,mB⟩
def O1 (most:Int) (c:nU):Bool:=!vR c.f0.f0 c.f0.f1 (-most) most || !vR c.f1.f0 c.f1.f1 (-most) most
set_option maxRecDepth 100000 in
set_option maxHeartbeats 2000000 in
theorem akA (g1:Nat) (s:lF) (A7 A8:Option Addr) (c7 c8:Nat) (c:nU) (w:World) (hm0:0≤s.most) (hm1:s.most≤5000) (hB:iD w g1 #[.int .i64 s.nx,.int .i64 s.ny,.int .i64 s.cell,.int .i64 s.slot,.int .i64 s.slots,.int .i64 s.layers,.int .i64 s.most,.slice A7 s.shores.length c7,.slice A8 s.currents.length c8] 25):
 Calls Try.prog 76 #[.agg #[.int .i64 c.f0.f0,.int .i64 c.f0.f1,.int .i64 c.f1.f0,.int .i64 c.f1.f1],.pointer (some ⟨g1,0,none⟩)] w (xA (.bool (O1 s.most c)) w):=by
 have aer:=Try.underlying40
 have pK:=Try.underlying27
 have HB:Hid (O1 s.most c = (!vR c.f0.f0 c.f0.f1 (-s.most) s.most || !vR c.f1.f0 c.f1.f1 (-s.most) s.most)):=Lib.hid rfl
 have c6:∀ o_,(w.alloc o_).cell? ⟨g1,6,none⟩ = some (.int .i64 s.most):=fun o_=>(aa (ag hB o_) 6).trans rfl
 go_enter Try.func76,Try.ntmps76
 go_wp2_with fail
 clear c6
 have m1:=hB
 clear hB
 have aEr:=dV m1
 have m2:iD (w.alloc (.cells #[.int .i64 c.f0.f0,.int .i64 c.f0.f1,.int .i64 c.f1.f0,.int .i64 c.f1.f1] 40)) (w.heap.size) #[.int .i64 c.f0.f0,.int .i64 c.f0.f1,.int .i64 c.f1.f0,.int .i64 c.f1.f1] 40:=(by have h_:=fT w (.cells #[.int .i64 c.f0.f0,.int .i64 c.f0.f1,.int .i64 c.f1.f0,.int .i64 c.f1.f1] 40);first|exact h_|(simp only [World.size_alloc] at h_;exact h_))
 replace m1:iD (w.alloc (.cells #[.int .i64 c.f0.f0,.int .i64 c.f0.f1,.int .i64 c.f1.f0,.int .i64 c.f1.f1] 40)) g1 #[.int .i64 s.nx,.int .i64 s.ny,.int .i64 s.cell,.int .i64 s.slot,.int .i64 s.slots,.int .i64 s.layers,.int .i64 s.most,.slice A7 s.shores.length c7,.slice A8 s.currents.length c8] 25:=(ag m1 _)
 have mB:Below w.heap.size w (w.alloc (.cells #[.int .i64 c.f0.f0,.int .i64 c.f0.f1,.int .i64 c.f1.f0,.int .i64 c.f1.f1] 40)):=(aY (Below.refl w.heap.size w) _)
 have nK:w.heap.size≤w.heap.size:=Nat.le_refl _
 generalize xV:(w.alloc (.cells #[.int .i64 c.f0.f0,.int .i64 c.f0.f1,.int .i64 c.f1.f0,.int .i64 c.f1.f1] 40)) = W1 at m1 m2 mB ⊢
 clear xV
 generalize hg2:w.heap.size = g2 at m2 ⊢
 have aod:g1≠g2:=by omega
 have aEs:g2≠g1:=aod.symm
 have hG2:w.heap.size≤g2:=by omega
 clear nK aEr
 try clear hg2
 have Dl:w.heap.size≤W1.heap.size:=mB.size
 have hcon:=abe c.f0.f0 c.f0.f1 (-s.most) s.most W1
 (with_reducible refine hcon.mono ?_)
 clear hcon
 rintro e W2 ⟨rfl,hb⟩
 replace m1:=aV m1 hb
 replace m2:=aV m2 hb
 replace mB:=dY mB hb
 clear hb
 have x9:w.heap.size≤W2.heap.size:=mB.size
 cases h0:vR c.f0.f0 c.f0.f1 (-s.most) s.most with
 |false =>
  have HR:=Lib.hid (HB.out.trans (by rw [h0];rfl:_ = true))
  clear h0 HB
  go_wp2
  go_ret
  exact ⟨PE,mB⟩
 |true =>
  have H0:=Lib.hid h0
  clear h0
  obtain ⟨apj,apk,apl,apm⟩:=rV m2
  have c6:=(aa m1 6).trans rfl
  go_wp2_with fail
  clear apj apk apl apm c6
  have hcon:=abe c.f1.f0 c.f1.f1 (-s.most) s.most W2
  (with_reducible refine hcon.mono ?_)
  clear hcon
  rintro e W3 ⟨rfl,hb⟩
  replace m1:=aV m1 hb
  replace m2:=aV m2 hb
  replace mB:=dY mB hb
  clear hb
  have LW:w.heap.size≤W3.heap.size:=mB.size
  cases h1:vR c.f1.f0 c.f1.f1 (-s.most) s.most with
  |false =>
   have HR:=Lib.hid (HB.out.trans (by rw [H0.out,h1];rfl:_ = true))
   clear h1 HB
   go_wp2
   go_ret
   exact ⟨PE,mB⟩
  |true =>
   have HR:=Lib.hid (HB.out.trans (by rw [H0.out,h1];rfl:_ = false))
   clear h1 HB
   go_wp2
   go_ret
   exact ⟨PE,mB⟩
def Mj (s:lF):Bool:=lG s.nx 1 12 && lG s.ny 1 12 && lG s.cell 100 65536 && lG s.slot 1 1048576 && lG s.slots 1 16 && lG s.layers 1 3 && lG s.most 0 5000 && decide ((s.shores.length:Int) = s.nx*s.ny) && decide ((s.currents.length:Int) = s.slots*s.layers*(s.nx*s.ny)) && !s.currents.any (O1 s.most)
def uk (s:lF):Int:=if Mj s then 0 else 2
set_option maxRecDepth 100000 in
set_option maxHeartbeats 8000000 in
theorem agl (s:lF) (A7 A8:Option Addr) (c7 c8:Nat) (w:World) (h7:s.shores.length≤c7) (hC7:Kd.C Kd.bool w A7 s.shores.length s.shores) (h8:s.currents.length≤c8) (WJ:Kd.C CY w A8 s.currents.length s.currents):
 Calls Try.prog 25 #[.agg #[.int .i64 s.nx,.int .i64 s.ny,.int .i64 s.cell,.int .i64 s.slot,.int .i64 s.slots,.int .i64 s.layers,.int .i64 s.most,.slice A7 s.shores.length c7,.slice A8 s.currents.length c8]] w (xA (.int .i64 (uk s)) w):=by
 have xE:=Try.underlying25
 have hb7:=hC7.2.1
 have hb8:=WJ.2.1
 have HE:Hid (uk s = if Mj s then 0 else 2):=Lib.hid rfl
 have HB:Hid (Mj s = (lG s.nx 1 12 && lG s.ny 1 12 && lG s.cell 100 65536 && lG s.slot 1 1048576 && lG s.slots 1 16 && lG s.layers 1 3 && lG s.most 0 5000 && decide ((s.shores.length:Int) = s.nx*s.ny) && decide ((s.currents.length:Int) = s.slots*s.layers*(s.nx*s.ny)) && !s.currents.any (O1 s.most))):=Lib.hid rfl
 go_enter Try.func25,Try.ntmps25
 go_wp2_with fail
 have m1:iD (w.alloc (.cells #[.int .i64 s.nx,.int .i64 s.ny,.int .i64 s.cell,.int .i64 s.slot,.int .i64 s.slots,.int .i64 s.layers,.int .i64 s.most,.slice A7 s.shores.length c7,.slice A8 s.currents.length c8] 25)) (w.heap.size) #[.int .i64 s.nx,.int .i64 s.ny,.int .i64 s.cell,.int .i64 s.slot,.int .i64 s.slots,.int .i64 s.layers,.int .i64 s.most,.slice A7 s.shores.length c7,.slice A8 s.currents.length c8] 25:=adI
 have mB:Below w.heap.size w (w.alloc (.cells #[.int .i64 s.nx,.int .i64 s.ny,.int .i64 s.cell,.int .i64 s.slot,.int .i64 s.slots,.int .i64 s.layers,.int .i64 s.most,.slice A7 s.shores.length c7,.slice A8 s.currents.length c8] 25)):=(aY (Below.refl w.heap.size w) _)
 have nK:w.heap.size≤w.heap.size:=Nat.le_refl _
 generalize xV:(w.alloc (.cells #[.int .i64 s.nx,.int .i64 s.ny,.int .i64 s.cell,.int .i64 s.slot,.int .i64 s.slots,.int .i64 s.layers,.int .i64 s.most,.slice A7 s.shores.length c7,.slice A8 s.currents.length c8] 25)) = W0 at m1 mB ⊢
 clear xV
 generalize hg1:w.heap.size = g1 at m1 ⊢
 have hG1:w.heap.size≤g1:=by omega
 clear nK
 try clear hg1
 have Qu:w.heap.size≤W0.heap.size:=mB.size
 have hcon:=CW s.nx 1 12 W0
 (with_reducible refine hcon.mono ?_)
 clear hcon
 rintro e W1 ⟨rfl,hb⟩
 replace m1:=aV m1 hb
 replace mB:=dY mB hb
 clear hb
 have Dl:w.heap.size≤W1.heap.size:=mB.size
 cases h_:lG s.nx 1 12 with
 |false =>
  have HZ:Hid (uk s = 2):=Lib.hid (by rw [HE.out,HB.out,h_];simp)
  clear h_ HE HB
  go_wp2
  go_ret
  exact ⟨zS,mB⟩
 |true =>
  have b0:=iV.1 h_
  have H0:=Lib.hid h_
  clear h_
  obtain ⟨Hq,Hr,Ht,Hu,Hw,Hy,Hz,H9,Ia⟩:=xG m1
  go_wp2_with fail
  clear Hq Hr Ht Hu Hw Hy Hz H9 Ia
  have hcon:=CW s.ny 1 12 W1
  (with_reducible refine hcon.mono ?_)
  clear hcon
  rintro e W2 ⟨rfl,hb⟩
  replace m1:=aV m1 hb
  replace mB:=dY mB hb
  clear hb
  have x9:w.heap.size≤W2.heap.size:=mB.size
  cases h_:lG s.ny 1 12 with
  |false =>
   have HZ:Hid (uk s = 2):=Lib.hid (by rw [HE.out,HB.out,H0.out,h_];simp)
   clear h_ HE HB
   go_wp2
   go_ret
   exact ⟨zS,mB⟩
  |true =>
   have b1:=iV.1 h_
   have H1:=Lib.hid h_
   clear h_
   obtain ⟨Hq,Hr,Ht,Hu,Hw,Hy,Hz,H9,Ia⟩:=xG m1
   go_wp2_with fail
   clear Hq Hr Ht Hu Hw Hy Hz H9 Ia
   have hcon:=CW s.cell 100 65536 W2
   (with_reducible refine hcon.mono ?_)
   clear hcon
   rintro e W3 ⟨rfl,hb⟩
   replace m1:=aV m1 hb
   replace mB:=dY mB hb
   clear hb
   have LW:w.heap.size≤W3.heap.size:=mB.size
   cases h_:lG s.cell 100 65536 with
   |false =>
    have HZ:Hid (uk s = 2):=Lib.hid (by rw [HE.out,HB.out,H0.out,H1.out,h_];simp)
    clear h_ HE HB
    go_wp2
    go_ret
    exact ⟨zS,mB⟩
   |true =>
    have b2:=iV.1 h_
    have H2:=Lib.hid h_
    clear h_
    obtain ⟨Hq,Hr,Ht,Hu,Hw,Hy,Hz,H9,Ia⟩:=xG m1
    go_wp2_with fail
    clear Hq Hr Ht Hu Hw Hy Hz H9 Ia
    have hcon:=CW s.slot 1 1048576 W3
    (with_reducible refine hcon.mono ?_)
    clear hcon
    rintro e W4 ⟨rfl,hb⟩
    replace m1:=aV m1 hb
    replace mB:=dY mB hb
    clear hb
    have UJ:w.heap.size≤W4.heap.size:=mB.size
    cases h_:lG s.slot 1 1048576 with
    |false =>
     have HZ:Hid (uk s = 2):=Lib.hid (by rw [HE.out,HB.out,H0.out,H1.out,H2.out,h_];simp)
     clear h_ HE HB
     go_wp2
     go_ret
     exact ⟨zS,mB⟩
    |true =>
     have b3:=iV.1 h_
     have H3:=Lib.hid h_
     clear h_
     obtain ⟨Hq,Hr,Ht,Hu,Hw,Hy,Hz,H9,Ia⟩:=xG m1
     go_wp2_with fail
     clear Hq Hr Ht Hu Hw Hy Hz H9 Ia
     have hcon:=CW s.slots 1 16 W4
     (with_reducible refine hcon.mono ?_)
     clear hcon
     rintro e W5 ⟨rfl,hb⟩
     replace m1:=aV m1 hb
     replace mB:=dY mB hb
     clear hb
     have adr:w.heap.size≤W5.heap.size:=mB.size
     cases h_:lG s.slots 1 16 with
     |false =>
      have HZ:Hid (uk s = 2):=Lib.hid (by rw [HE.out,HB.out,H0.out,H1.out,H2.out,H3.out,h_];simp)
      clear h_ HE HB
      go_wp2
      go_ret
      exact ⟨zS,mB⟩
     |true =>
      have b4:=iV.1 h_
      have H4:=Lib.hid h_
      clear h_
      obtain ⟨Hq,Hr,Ht,Hu,Hw,Hy,Hz,H9,Ia⟩:=xG m1
      go_wp2_with fail
      clear Hq Hr Ht Hu Hw Hy Hz H9 Ia
      have hcon:=CW s.layers 1 3 W5
      (with_reducible refine hcon.mono ?_)
      clear hcon
      rintro e W6 ⟨rfl,hb⟩
      replace m1:=aV m1 hb
      replace mB:=dY mB hb
      clear hb
      have aIk:w.heap.size≤W6.heap.size:=mB.size
      cases h_:lG s.layers 1 3 with
      |false =>
       have HZ:Hid (uk s = 2):=Lib.hid (by rw [HE.out,HB.out,H0.out,H1.out,H2.out,H3.out,H4.out,h_];simp)
       clear h_ HE HB
       go_wp2
       go_ret
       exact ⟨zS,mB⟩
      |true =>
       have b5:=iV.1 h_
       have H5:=Lib.hid h_
       clear h_
       obtain ⟨Hq,Hr,Ht,Hu,Hw,Hy,Hz,H9,Ia⟩:=xG m1
       go_wp2_with fail
       clear Hq Hr Ht Hu Hw Hy Hz H9 Ia
       have hcon:=CW s.most 0 5000 W6
       (with_reducible refine hcon.mono ?_)
       clear hcon
       rintro e W7 ⟨rfl,hb⟩
       replace m1:=aV m1 hb
       replace mB:=dY mB hb
       clear hb
       have aIl:w.heap.size≤W7.heap.size:=mB.size
       cases h_:lG s.most 0 5000 with
       |false =>
        have HZ:Hid (uk s = 2):=Lib.hid (by rw [HE.out,HB.out,H0.out,H1.out,H2.out,H3.out,H4.out,H5.out,h_];simp)
        clear h_ HE HB
        go_wp2
        go_ret
        exact ⟨zS,mB⟩
       |true =>
        have b6:=iV.1 h_
        have H6:=Lib.hid h_
        clear h_
        have p1:=fI (show 0≤s.nx by omega) b0.2 (show 0≤s.ny by omega) b1.2
        have p2:=fI (show 0≤s.slots by omega) b4.2 (show 0≤s.layers by omega) b5.2
        have p3:=fI p2.1 p2.2 p1.1 p1.2
        have e1:wrap64 (s.nx*s.ny) = s.nx*s.ny:=by unfold wrap64;omega
        have HN:=Lib.hid e1
        try rw [e1]
        clear e1
        by_cases q7:(s.shores.length:Int) = s.nx*s.ny
        case neg =>
         have h_:decide ((s.shores.length:Int) = s.nx*s.ny) = false:=decide_eq_false q7
         have e_:((s.shores.length:Int) == s.nx*s.ny) = false:=beq_eq_false_iff_ne.2 q7
         have e2_:((s.shores.length:Int) != s.nx*s.ny) = true:=by rw [bne,e_];rfl
         clear q7
         obtain ⟨Hq,Hr,Ht,Hu,Hw,Hy,Hz,H9,Ia⟩:=xG m1
         have HZ:Hid (uk s = 2):=Lib.hid (by rw [HE.out,HB.out,H0.out,H1.out,H2.out,H3.out,H4.out,H5.out,H6.out,h_];simp)
         clear h_ HE HB
         go_wp2
         go_ret
         exact ⟨zS,mB⟩
        case pos =>
         have h_:decide ((s.shores.length:Int) = s.nx*s.ny) = true:=decide_eq_true q7
         have H7:=Lib.hid h_
         have f7:((s.shores.length:Int) == s.nx*s.ny) = true:=beq_iff_eq.2 q7
         have g7:((s.shores.length:Int) != s.nx*s.ny) = false:=by rw [bne,f7];rfl
         clear h_ q7
         by_cases q8:(s.currents.length:Int) = s.slots*s.layers*(s.nx*s.ny)
         case neg =>
          have h_:decide ((s.currents.length:Int) = s.slots*s.layers*(s.nx*s.ny)) = false:=decide_eq_false q8
          have e_:((s.currents.length:Int) == s.slots*s.layers*(s.nx*s.ny)) = false:=beq_eq_false_iff_ne.2 q8
          have e2_:((s.currents.length:Int) != s.slots*s.layers*(s.nx*s.ny)) = true:=by rw [bne,e_];rfl
          clear q8
          obtain ⟨Hq,Hr,Ht,Hu,Hw,Hy,Hz,H9,Ia⟩:=xG m1
          have HZ:Hid (uk s = 2):=Lib.hid (by rw [HE.out,HB.out,H0.out,H1.out,H2.out,H3.out,H4.out,H5.out,H6.out,H7.out,h_];simp)
          clear h_ HE HB
          go_wp2
          go_ret
          exact ⟨zS,mB⟩
         case pos =>
          have h_:decide ((s.currents.length:Int) = s.slots*s.layers*(s.nx*s.ny)) = true:=decide_eq_true q8
          have H8:=Lib.hid h_
          have f8:((s.currents.length:Int) == s.slots*s.layers*(s.nx*s.ny)) = true:=beq_iff_eq.2 q8
          have g8:((s.currents.length:Int) != s.slots*s.layers*(s.nx*s.ny)) = false:=by rw [bne,f8];rfl
          clear h_ q8
          obtain ⟨Hq,Hr,Ht,Hu,Hw,Hy,Hz,H9,Ia⟩:=xG m1
          go_wp2_with fail
          clear Hq Hr Ht Hu Hw Hy Hz H9 Ia
          have hcon:=Yb 76 #[.pointer (some ⟨g1,0,none⟩)] (O1 s.most) A8 c8 s.currents W7 (Kd.bn WJ mB) h8 (enters_of Try.func76 aR rfl) (fun x W hW=>akA g1 s A7 A8 c7 c8 x W b6.1 b6.2 (aV m1 hW))
          (with_reducible refine hcon.mono ?_)
          clear hcon
          rintro e W8 ⟨rfl,hb⟩
          replace m1:=aV m1 hb
          replace mB:=dY mB hb
          clear hb
          have aIm:w.heap.size≤W8.heap.size:=mB.size
          cases h_:s.currents.any (O1 s.most) with
          |true =>
           have HZ:Hid (uk s = 2):=Lib.hid (by rw [HE.out,HB.out,H0.out,H1.out,H2.out,H3.out,H4.out,H5.out,H6.out,H7.out,H8.out,h_];simp)
           clear h_ HE HB
           go_wp2
           go_ret
           exact ⟨zS,mB⟩
          |false =>
           have HZ:Hid (uk s = 0):=Lib.hid (by rw [HE.out,HB.out,H0.out,H1.out,H2.out,H3.out,H4.out,H5.out,H6.out,H7.out,H8.out,h_];simp)
           clear h_ HE HB
           go_wp2
           go_ret
           exact ⟨zS,mB⟩
end Go.Proofs.Ytmhaiihjfgfaoaa.Gl
end
section
namespace Go.Proofs.Ytmhaiihjfgfaoaa.Gl
open Go.RowKit Go.Shelf Go.Proofs.YtmhaiihjfgfaoaaW.PrintWords Go.Proofs.YtmhaiihjfgfaoaaW.PrintLast Go.Proofs.YtmhaiihjfgfaoaaW.PrintMore Go.Proofs.Ytmhaiihjfgfaoaa.Pr Go.Proofs.YtmhaiihjfgfaoaaW.Round
set_option linter.unusedVariables false
set_option linter.unusedSimpArgs false
attribute [local go_sem] cz cB dK dL cK
def Dm (x:Int):Int:=x / 1000000
def Uo (x:Int):Int:=-((-x) / 1000000)
def nL (dive:Int) (a:nD) (speed:Int) (u:nD):nD:=⟨a.f0+Dm ((speed+1000*u.f0)*dive),a.f1+Uo ((speed+1000*u.f1)*dive)⟩
theorem nH {a b m n:Int} (h0:-m≤a) (h1:a≤m) (h2:0≤b) (h3:b≤n) (hm:0≤m):-(m*n)≤a*b∧a*b≤m*n:=by
 have k1:=Int.mul_le_mul_of_nonneg_right h1 h2
 have k2:=Int.mul_le_mul_of_nonneg_left h3 hm
 have k3:=Int.mul_le_mul_of_nonneg_right h0 h2
 rw [Int.neg_mul] at k3
 omega
theorem tdm (X:Int):X = 1000000*Int.tdiv X 1000000+Int.tmod X 1000000∧(0≤X→0≤Int.tmod X 1000000∧Int.tmod X 1000000 < 1000000)∧(X < 0→-1000000 < Int.tmod X 1000000∧Int.tmod X 1000000≤0):=by
 refine ⟨(Int.mul_tdiv_add_tmod X 1000000).symm,fun h=>?_,fun h=>?_⟩
 ·rw [Int.tmod_eq_emod_of_nonneg h]
  omega
 ·have e:X = -(-X):=by omega
  rw [e,Int.neg_tmod,Int.tmod_eq_emod_of_nonneg (show 0≤-X by omega)]
  omega
theorem afx {a b c d:Int} (h:a = c) (h2:b = d):Ending.returned (.agg #[.int .i64 a,.int .i64 b]) = Ending.returned (.agg #[.int .i64 c,.int .i64 d]):=by rw [h,h2]
set_option maxRecDepth 100000 in
set_option maxHeartbeats 4000000 in
theorem Qw (b:Nat) (s:lF) (v:qO) (a:nD) (speed:Int) (u:nD) (w:World) (hT:kZ w b s v) (hV:Br v) (ha0:-1099511627776≤a.f0∧a.f0≤1099511627776) (ha1:-1099511627776≤a.f1∧a.f1≤1099511627776) (hs0:-5000000≤speed∧speed≤5000000) (hu0:-5000≤u.f0∧u.f0≤5000) (hu1:-5000≤u.f1∧u.f1≤5000):
 Calls Try.prog 131 #[.pointer (some ⟨b,0,none⟩),.agg #[.int .i64 a.f0,.int .i64 a.f1],.int .i64 speed,.agg #[.int .i64 u.f0,.int .i64 u.f1]] w (xA (.agg #[.int .i64 (nL v.dive a speed u).f0,.int .i64 (nL v.dive a speed u).f1]) w):=by
 have pK:=Try.underlying27
 obtain ⟨A7,c7,A8,c8,hB,_⟩:=hT
 have hd:=hV.dive
 have m0:=nH (a:=speed+1000*u.f0) (b:=v.dive) (m:=10000000) (n:=131072) (by omega) (by omega) (by omega) (by omega) (by omega)
 have m1:=nH (a:=speed+1000*u.f1) (b:=v.dive) (m:=10000000) (n:=131072) (by omega) (by omega) (by omega) (by omega) (by omega)
 clear hV
 have HR:Hid (nL v.dive a speed u = ⟨a.f0+Dm ((speed+1000*u.f0)*v.dive),a.f1+Uo ((speed+1000*u.f1)*v.dive)⟩):=Lib.hid rfl
 go_enter Try.func131,Try.ntmps131
 go_wp2_with fail
 have mT:=hB
 clear hB
 have Dj:=dV mT
 have m5:iD (((w.alloc (.cells #[.int .i64 a.f0,.int .i64 a.f1] 27)).alloc (.cells #[.int .i64 u.f0,.int .i64 u.f1] 27)).alloc (.cells #[.int .i64 0,.int .i64 0] 27)) (w.heap.size) #[.int .i64 a.f0,.int .i64 a.f1] 27:=(ag (ag (by have h_:=fT w (.cells #[.int .i64 a.f0,.int .i64 a.f1] 27);first|exact h_|(simp only [World.size_alloc] at h_;exact h_)) _) _)
 have m7:iD (((w.alloc (.cells #[.int .i64 a.f0,.int .i64 a.f1] 27)).alloc (.cells #[.int .i64 u.f0,.int .i64 u.f1] 27)).alloc (.cells #[.int .i64 0,.int .i64 0] 27)) (w.heap.size+1) #[.int .i64 u.f0,.int .i64 u.f1] 27:=(ag (by have h_:=fT (w.alloc (.cells #[.int .i64 a.f0,.int .i64 a.f1] 27)) (.cells #[.int .i64 u.f0,.int .i64 u.f1] 27);first|exact h_|(simp only [World.size_alloc] at h_;exact h_)) _)
 have m8:iD (((w.alloc (.cells #[.int .i64 a.f0,.int .i64 a.f1] 27)).alloc (.cells #[.int .i64 u.f0,.int .i64 u.f1] 27)).alloc (.cells #[.int .i64 0,.int .i64 0] 27)) (w.heap.size+1+1) #[.int .i64 0,.int .i64 0] 27:=(by have h_:=fT ((w.alloc (.cells #[.int .i64 a.f0,.int .i64 a.f1] 27)).alloc (.cells #[.int .i64 u.f0,.int .i64 u.f1] 27)) (.cells #[.int .i64 0,.int .i64 0] 27);first|exact h_|(simp only [World.size_alloc] at h_;exact h_))
 replace mT:iD (((w.alloc (.cells #[.int .i64 a.f0,.int .i64 a.f1] 27)).alloc (.cells #[.int .i64 u.f0,.int .i64 u.f1] 27)).alloc (.cells #[.int .i64 0,.int .i64 0] 27)) b #[.int .i64 s.nx,.int .i64 s.ny,.int .i64 s.cell,.int .i64 s.slot,.int .i64 s.slots,.int .i64 s.layers,.int .i64 s.most,.slice A7 s.shores.length c7,.slice A8 s.currents.length c8,.int .i64 v.speed,.int .i64 v.dive,.int .i64 v.use.f0,.int .i64 v.use.f1,.int .i64 v.drift.f0,.int .i64 v.drift.f1,.int .i64 v.reserve] 110:=(ag (ag (ag mT _) _) _)
 have mB:Below w.heap.size w (((w.alloc (.cells #[.int .i64 a.f0,.int .i64 a.f1] 27)).alloc (.cells #[.int .i64 u.f0,.int .i64 u.f1] 27)).alloc (.cells #[.int .i64 0,.int .i64 0] 27)):=(aY (aY (aY (Below.refl w.heap.size w) _) _) _)
 have nK:w.heap.size≤w.heap.size:=Nat.le_refl _
 generalize xV:(((w.alloc (.cells #[.int .i64 a.f0,.int .i64 a.f1] 27)).alloc (.cells #[.int .i64 u.f0,.int .i64 u.f1] 27)).alloc (.cells #[.int .i64 0,.int .i64 0] 27)) = W1 at mT m5 m7 m8 mB ⊢
 clear xV
 generalize hg5:w.heap.size = g5 at m5 m7 m8 ⊢
 have Re:b≠g5:=by omega
 have ac6:g5≠b:=Re.symm
 have hG5:w.heap.size≤g5:=by omega
 generalize hg7:g5+1 = g7 at m7 m8 ⊢
 have WM:b≠g7:=by omega
 have GN:g5≠g7:=by omega
 have ams:g7≠b:=WM.symm
 have WO:g7≠g5:=GN.symm
 have hG7:w.heap.size≤g7:=by omega
 generalize hg8:g7+1 = g8 at m8 ⊢
 have aoe:b≠g8:=by omega
 have WQ:g5≠g8:=by omega
 have WR:g7≠g8:=by omega
 have aEt:g8≠b:=aoe.symm
 have amt:g8≠g5:=WQ.symm
 have amu:g8≠g7:=WR.symm
 have WS:w.heap.size≤g8:=by omega
 clear nK Dj
 try clear hg8
 try clear hg7
 try clear hg5
 have Dl:w.heap.size≤W1.heap.size:=mB.size
 replace mT:=ah mT
 replace m5:=ah m5
 replace m7:=ah m7
 replace m8:=ah m8
 replace mB:=bW mB
 have auv:wrap64 (1000*u.f0) = 1000*u.f0:=by unfold wrap64;omega
 have auw:wrap64 (speed+1000*u.f0) = speed+1000*u.f0:=by unfold wrap64;omega
 have auy:wrap64 ((speed+1000*u.f0)*v.dive) = (speed+1000*u.f0)*v.dive:=by unfold wrap64;omega
 have auz:wrap64 (1000*u.f1) = 1000*u.f1:=by unfold wrap64;omega
 have auA:wrap64 (speed+1000*u.f1) = speed+1000*u.f1:=by unfold wrap64;omega
 have auB:wrap64 ((speed+1000*u.f1)*v.dive) = (speed+1000*u.f1)*v.dive:=by unfold wrap64;omega
 refine jI (n:=25) (S:=fun w'=>w'.cell? ⟨g7,0,none⟩ = some (.int .i64 u.f0)∧w'.cell? ⟨g7,1,none⟩ = some (.int .i64 u.f1)∧w'.cell? ⟨g5,0,none⟩ = some (.int .i64 a.f0)∧w'.cell? ⟨g5,1,none⟩ = some (.int .i64 a.f1)∧w'.cell? ⟨b,10,none⟩ = some (.int .i64 v.dive)) (ds:=[24]) #[false,false,false,false,false,false,false,false,false,false,false,false,false,false,false,false,false,false,false,false,false,false,false,false,false] aR rfl rfl ⟨((aa m7 0).trans rfl),((aa m7 1).trans rfl),((aa m5 0).trans rfl),((aa m5 1).trans rfl),((aa mT 10).trans rfl)⟩ (fun hHeld=>?_)
 generalize hWd:World.drew _ = Wx at mB mT m5 m7 m8 hHeld ⊢
 clear hWd
 refine dJ (i:=0) (N:=some 12) aR ?_
 refine dJ (i:=1) (N:=some 13) aR ?_
 refine dJ (i:=5) (N:=some 17) aR ?_
 refine dJ (i:=6) (N:=some 18) aR ?_
 refine dJ (i:=7) (N:=some 19) aR ?_
 refine dJ (i:=8) (N:=some 20) aR ?_
 refine dJ (i:=11) (N:=some 23) aR ?_
 refine dJ (i:=12) (N:=some 24) aR ?_
 refine dJ (i:=16) (N:=some 28) aR ?_
 refine dJ (i:=17) (N:=some 29) aR ?_
 refine dJ (i:=18) (N:=some 30) aR ?_
 refine dJ (i:=19) (N:=some 31) aR ?_
 refine ja (i:=2) (N:=some 14) aR hHeld ?_
 refine dJ (i:=3) (N:=some 15) aR ?_
 refine dJ (i:=4) (N:=some 16) aR ?_
 refine ja (i:=9) (N:=some 21) aR hHeld ?_
 refine dJ (i:=10) (N:=some 22) aR ?_
 refine ja (i:=13) (N:=some 25) aR hHeld ?_
 refine dJ (i:=14) (N:=some 26) aR ?_
 refine dJ (i:=15) (N:=some 27) aR ?_
 refine ja (i:=20) (N:=some 32) aR hHeld ?_
 refine dJ (i:=21) (N:=some 33) aR ?_
 refine dJ (i:=22) (N:=some 34) aR ?_
 refine jq (i:=23) (N:=some 9) #[true,true,true,true,true,true,true,true,true,true,true,true,true,true,true,true,true,true,true,true,true,true,true,true,false] rfl rfl aR (by decide) (fun K hK=>?_)
 refine KT (w1:=?_) (v:=?_) (by rfl) rfl ?_ ?_
 rotate_left 2
 ·go_simp
  constructor
  ·rfl
  ·rfl
 refine hK.out _ _ ⟨((aa (ag m7 (.cells #[.int .i64 0,.int .i64 0] 27)) 0).trans rfl),((aa (ag m7 (.cells #[.int .i64 0,.int .i64 0] 27)) 1).trans rfl),((aa (ag m5 (.cells #[.int .i64 0,.int .i64 0] 27)) 0).trans rfl),((aa (ag m5 (.cells #[.int .i64 0,.int .i64 0] 27)) 1).trans rfl),((aa (ag mT (.cells #[.int .i64 0,.int .i64 0] 27)) 10).trans rfl)⟩ (fun hHeld=>?_)
 clear hK K
 refine ek (by show Act.put _ (some 9) _ = _;simp only [Act.put,List.setIfInBounds_toArray,List.set_cons_zero,List.set_cons_succ,fD,fJ];rfl) ?_
 refine Qv (i:=24) (N:=none) #[true,true,true,true,true,true,true,true,true,true,true,true,true,true,true,true,true,true,true,true,true,true,true,true,true] rfl rfl aR (by decide) (fun K hK=>?_)
 have PT:=fT Wx (.cells #[.int .i64 0,.int .i64 0] 27)
 have UE:=aX PT 0
 have UF:=aX PT 1
 have UG:=(aa PT 0).trans rfl
 have UH:=(aa PT 1).trans rfl
 refine yc (w1:=?_) (by rfl) rfl ?_ ?_
 rotate_left
 ·go_simp
  rfl
 clear PT UE UF UG UH
 refine hK.out _ _ ?_
 clear hK K
 refine lC aR ?_
 clear auv auw auy
 clear auz auA auB
 have Ux:w.heap.size≤Wx.heap.size:=mB.size
 have Dj:=dV mT
 have KQ:=dV m5
 have ady:=dV m7
 have amv:=dV m8
 have m9:iD (Wx.alloc (.cells #[.int .i64 ((speed+1000*u.f0)*v.dive),.int .i64 ((speed+1000*u.f1)*v.dive)] 27)) (Wx.heap.size) #[.int .i64 ((speed+1000*u.f0)*v.dive),.int .i64 ((speed+1000*u.f1)*v.dive)] 27:=(by have h_:=fT Wx (.cells #[.int .i64 ((speed+1000*u.f0)*v.dive),.int .i64 ((speed+1000*u.f1)*v.dive)] 27);first|exact h_|(simp only [World.size_alloc] at h_;exact h_))
 replace mT:iD (Wx.alloc (.cells #[.int .i64 ((speed+1000*u.f0)*v.dive),.int .i64 ((speed+1000*u.f1)*v.dive)] 27)) b #[.int .i64 s.nx,.int .i64 s.ny,.int .i64 s.cell,.int .i64 s.slot,.int .i64 s.slots,.int .i64 s.layers,.int .i64 s.most,.slice A7 s.shores.length c7,.slice A8 s.currents.length c8,.int .i64 v.speed,.int .i64 v.dive,.int .i64 v.use.f0,.int .i64 v.use.f1,.int .i64 v.drift.f0,.int .i64 v.drift.f1,.int .i64 v.reserve] 110:=(ag mT _)
 replace m5:iD (Wx.alloc (.cells #[.int .i64 ((speed+1000*u.f0)*v.dive),.int .i64 ((speed+1000*u.f1)*v.dive)] 27)) g5 #[.int .i64 a.f0,.int .i64 a.f1] 27:=(ag m5 _)
 replace m7:iD (Wx.alloc (.cells #[.int .i64 ((speed+1000*u.f0)*v.dive),.int .i64 ((speed+1000*u.f1)*v.dive)] 27)) g7 #[.int .i64 u.f0,.int .i64 u.f1] 27:=(ag m7 _)
 replace m8:iD (Wx.alloc (.cells #[.int .i64 ((speed+1000*u.f0)*v.dive),.int .i64 ((speed+1000*u.f1)*v.dive)] 27)) g8 #[.int .i64 0,.int .i64 0] 27:=(ag m8 _)
 replace mB:Below w.heap.size w (Wx.alloc (.cells #[.int .i64 ((speed+1000*u.f0)*v.dive),.int .i64 ((speed+1000*u.f1)*v.dive)] 27)):=(aY mB _)
 have nK:w.heap.size≤Wx.heap.size:=Ux
 generalize xV:(Wx.alloc (.cells #[.int .i64 ((speed+1000*u.f0)*v.dive),.int .i64 ((speed+1000*u.f1)*v.dive)] 27)) = W2 at mT m5 m7 m8 m9 mB ⊢
 clear xV
 generalize hg9:Wx.heap.size = g9 at m9 ⊢
 have OQ:b≠g9:=by omega
 have WZ:g5≠g9:=by omega
 have OV:g7≠g9:=by omega
 have aof:g8≠g9:=by omega
 have ado:g9≠b:=OQ.symm
 have amF:g9≠g5:=WZ.symm
 have adw:g9≠g7:=OV.symm
 have aEu:g9≠g8:=aof.symm
 have hG9:w.heap.size≤g9:=by omega
 clear nK Dj KQ ady amv
 try clear hg9
 have x9:w.heap.size≤W2.heap.size:=mB.size
 have t0:=tdm ((speed+1000*u.f0)*v.dive)
 have t1:=tdm ((speed+1000*u.f1)*v.dive)
 generalize (speed+1000*u.f0)*v.dive = X at*
 generalize (speed+1000*u.f1)*v.dive = Y at*
 generalize hq0:Int.tdiv X 1000000 = q0 at*
 generalize hr0:Int.tmod X 1000000 = r0 at*
 generalize hq1:Int.tdiv Y 1000000 = q1 at*
 generalize hr1:Int.tmod Y 1000000 = r1 at*
 have bq0:-10000000000000≤q0∧q0≤10000000000000:=by omega
 have bq1:-10000000000000≤q1∧q1≤10000000000000:=by omega
 have T0:=Lib.hid t0
 have T1:=Lib.hid t1
 clear t0 t1
 obtain ⟨Ir,KS⟩:=II m5
 obtain ⟨ads,adt⟩:=II m9
 obtain ⟨aoZ,ao0,ao1,ao2⟩:=nE m8
 go_wp2_with fail
 go_quiet (fail)
 clear hq0 hq1
 go_wp2
 all_goals
  have t0:=T0.out
  have t1:=T1.out
  try simp only [bne_iff_ne,ne_eq,bne_eq_false_iff_eq] at*
  exact bodyPost_ret (results_cell_row rfl _ _ g8 27 #[_,_] (0,0) _ rfl (aI (aI (au m8 _) 0 _ rfl) 1 _ rfl) Try.underlying27 rfl aR) rfl ⟨afx (by rw [HR.out];unfold Dm;dsimp only;omega) (by rw [HR.out];unfold Uo;dsimp only;omega),(((l5 mB) _).setCell WS _).setCell WS _⟩
end Go.Proofs.Ytmhaiihjfgfaoaa.Gl
end
section
namespace Go.Proofs.Ytmhaiihjfgfaoaa.Gl
open Go.RowKit Go.Shelf Go.Proofs.YtmhaiihjfgfaoaaW.PrintWords Go.Proofs.YtmhaiihjfgfaoaaW.PrintLast Go.Proofs.YtmhaiihjfgfaoaaW.PrintMore Go.Proofs.Ytmhaiihjfgfaoaa.Pr Go.Proofs.YtmhaiihjfgfaoaaW.Round
set_option linter.unusedVariables false
set_option linter.unusedSimpArgs false
attribute [local go_sem] cz cB dK dL cK
attribute [local go_sem] Oper.semAt_some
def acB (nx i0:Int) (n:Nat) (k:Int):List Int:=(List.range n).map fun j:Nat=>k*nx+(i0+(j:Int))
def allT (nx i0:Int) (n:Nat) (k0:Int) (m:Nat):List Int:=(List.range m).flatMap fun r:Nat=>acB nx i0 n (k0+(r:Int))
def zQ (nx i0:Int) (n:Nat) (k0:Int) (q j:Nat):List Int:=allT nx i0 n k0 q++acB nx i0 j (k0+(q:Int))
theorem Yc (nx i0:Int) (n:Nat) (k0:Int):zQ nx i0 n k0 0 0 = []:=rfl
theorem Q7 (nx i0:Int) (n:Nat) (k0:Int) (q:Nat):zQ nx i0 n k0 q 0 = allT nx i0 n k0 q:=by unfold zQ acB;simp
theorem Ib (nx i0:Int) (n:Nat) (k0:Int) (q j:Nat):zQ nx i0 n k0 q (j+1) = zQ nx i0 n k0 q j++[(k0+(q:Int))*nx+(i0+(j:Int))]:=by
 unfold zQ acB
 rw [List.range_succ,List.map_append,List.map_singleton,List.append_assoc]
theorem LP (nx i0:Int) (n:Nat) (k0:Int) (q:Nat):allT nx i0 n k0 (q+1) = zQ nx i0 n k0 q n:=by
 unfold zQ allT
 rw [List.range_succ,List.flatMap_append,List.flatMap_singleton]
theorem Wu (nx i0:Int) (n:Nat) (k0:Int):∀ (d q:Nat),allT nx i0 n k0 q <+:allT nx i0 n k0 (q+d)
 |0,q=>List.prefix_refl _
 |d+1,q=>by
  refine (Wu nx i0 n k0 d q).trans ?_
  rw [show q+(d+1) = (q+d)+1 by omega,LP]
  exact List.prefix_append _ _
theorem Q8 {nx i0:Int} {n:Nat} {k0:Int} {m q j:Nat} (hq:q < m) (hj:j≤n):zQ nx i0 n k0 q j <+:allT nx i0 n k0 m:=by
 have h1:zQ nx i0 n k0 q j <+:zQ nx i0 n k0 q n:=by
  unfold zQ
  refine (List.prefix_append_right_inj _).2 ?_
  unfold acB
  refine List.IsPrefix.map _ ?_
  rw [show n = j+(n - j) by omega,List.range_add]
  exact List.prefix_append _ _
 rw [← LP] at h1
 have h2:=Wu nx i0 n k0 (m - (q+1)) (q+1)
 rw [show q+1+(m - (q+1)) = m by omega] at h2
 exact h1.trans h2
abbrev zZ (s:lF):={ c:Int // 0≤c∧c < s.nx*s.ny }
def nW (s:lF) (x:gz):List Int:=allT s.nx (pX s.cell x.f0 s.nx).1 ((pX s.cell x.f0 s.nx).2+1 - (pX s.cell x.f0 s.nx).1).toNat (pX s.cell x.f1 s.ny).1 ((pX s.cell x.f1 s.ny).2+1 - (pX s.cell x.f1 s.ny).1).toNat
def acY (s:lF) (x:gz) (xs:List (zZ s)):Prop:=xs.map Subtype.val = nW s x
def afO (s:lF) (x:gz) (xs:List (zZ s)):Prop:=xs.map Subtype.val <+:nW s x
theorem abf {c:Int} {a:nD} {most:Int} (hc:1≤c) (h0:0≤a.f0) (h1:0≤a.f1) (hm:1≤most):(0≤(pX c a most).1∧(pX c a most).1≤most - 1)∧(0≤(pX c a most).2∧(pX c a most).2≤most - 1):=by
 have d0:=Bl h0 hc
 have d1:=Bl h1 hc
 unfold pX uQ
 dsimp only
 split <;> omega
def Qt (s:lF) (x:gz):Prop:=(0≤x.f0.f0∧x.f0.f0≤1099511627776)∧(0≤x.f0.f1∧x.f0.f1≤1099511627776)∧(0≤x.f1.f0∧x.f1.f0≤1099511627776)∧(0≤x.f1.f1∧x.f1.f1≤1099511627776)
set_option maxHeartbeats 1000000 in
theorem LU (b:Nat) (x:gz) (w:World):Calls Try.prog 118 #[.pointer (some ⟨b,0,none⟩),.agg #[.int .i64 x.f0.f0,.int .i64 x.f0.f1,.int .i64 x.f1.f0,.int .i64 x.f1.f1]] w fun e w'=>e = .returned (.func (.func 135) #[] #[.pointer (some ⟨w.heap.size,0,none⟩),.pointer (some ⟨w.heap.size+1,0,none⟩)])∧w' = (w.alloc (.cells #[.pointer (some ⟨b,0,none⟩)] 104)).alloc (.cells #[.int .i64 x.f0.f0,.int .i64 x.f0.f1,.int .i64 x.f1.f0,.int .i64 x.f1.f1] 31):=by
 have qP:=Try.underlying31
 go_enter Try.func118,Try.ntmps118
 go_wp2
 go_ret
 exact ⟨rfl,rfl⟩
theorem row_in {nx ny k:Int} (hx:1≤nx) (h0:0≤k) (h1:k≤ny - 1):0≤k*nx∧k*nx≤nx*ny - nx:=by
 refine ⟨Int.mul_nonneg h0 (by omega),?_⟩
 have h:=Int.mul_le_mul_of_nonneg_right h1 (show 0≤nx by omega)
 rw [Int.sub_mul,Int.one_mul,Int.mul_comm ny nx] at h
 exact h
def Env (w0:World) (bp bx b:Nat) (x:gz) (W:World):Prop:=Below w0.heap.size w0 W∧iD W bp #[.pointer (some ⟨b,0,none⟩)] 104∧iD W bx #[.int .i64 x.f0.f0,.int .i64 x.f0.f1,.int .i64 x.f1.f0,.int .i64 x.f1.f1] 31
theorem Env.below {w0:World} {bp bx b:Nat} {x:gz} {W W1:World} (h:Env w0 bp bx b x W) (hb:Below W.heap.size W W1):Env w0 bp bx b x W1:=⟨dY h.1 hb,h.2.1.below hb,h.2.2.below hb⟩
set_option maxRecDepth 100000 in
set_option maxHeartbeats 4000000 in
theorem LV (n:Nat) (hn:1≤n) (l bp bx:Nat) (w0:World) (b:Nat) (s:lF) (v:qO) (x:gz) (hT:kZ w0 b s v) (hS:xz s) (hx:Qt s x) (Kp:World→World→Prop) (hKp:∀ A B,Kp A B→Env w0 bp bx b x A→Env w0 bp bx b x B) (J Jx:List (zZ s)→World→Prop)
 (hY:∀ pre c W,J pre W→pre.length < (nW s x).length→YieldAt Fence.wide (n - 1) Try.prog l #[.int .i64 c.1] W fun e W' =>
  (e = .returned (.bool true)∧J (pre++[c]) W'∧Kp W W')∨(e = .returned (.bool false)∧Jx (pre++[c]) W'))
 (hJa:∀ (f:List (zZ s)) W W',J f W→Below W.heap.size W W'→J f W')
 (W:World) (hE:Env w0 bp bx b x W) (h0:J [] W):
 CallsIn Fence.wide n Try.prog 135 #[.func (.yield l) #[] #[],.pointer (some ⟨bp,0,none⟩),.pointer (some ⟨bx,0,none⟩)] W fun e W'=>(∃ v,e = .returned v)∧
  ((∃ xs,acY s x xs∧J xs W')∨(∃ pre,afO s x pre∧Jx pre W')):=by
 have qP:=Try.underlying31
 have pK:=Try.underlying27
 obtain ⟨⟨x0,x1⟩,⟨x2,x3⟩,⟨x4,x5⟩,x6,x7⟩:=hx
 have hcl:=hS.cell
 have hnx:=hS.nx
 have hny:=hS.ny
 have gI:=abf (c:=s.cell) (a:=x.f0) (most:=s.nx) (by omega) x0 x2 hnx.1
 have gK:=abf (c:=s.cell) (a:=x.f1) (most:=s.ny) (by omega) x4 x6 hny.1
 have kN:=fun W (h:kZ W b s v)=>Mg b s v x.f0 s.nx W h hS x0 x1 x2 x3 hnx.1 hnx.2
 have kM:=fun W (h:kZ W b s v)=>Mg b s v x.f1 s.ny W h hS x4 x5 x6 x7 hny.1 hny.2
 have hAll:nW s x = allT s.nx (pX s.cell x.f0 s.nx).1 ((pX s.cell x.f0 s.nx).2+1 - (pX s.cell x.f0 s.nx).1).toNat (pX s.cell x.f1 s.ny).1 ((pX s.cell x.f1 s.ny).2+1 - (pX s.cell x.f1 s.ny).1).toNat:=rfl
 generalize pX s.cell x.f0 s.nx = I at*
 generalize pX s.cell x.f1 s.ny = K at*
 obtain ⟨i0,i1⟩:=I
 obtain ⟨k0,k1⟩:=K
 dsimp only at gI gK kN kM hAll
 obtain ⟨⟨i2,i3⟩,i4,i5⟩:=gI
 obtain ⟨⟨k2,k3⟩,k4,k5⟩:=gK
 have HAll:=Lib.hid hAll
 clear hAll hcl
 have hE0:=hE
 obtain ⟨hb0,mP,mX⟩:=hE0
 obtain ⟨A7,c7,A8,c8,mT,_⟩:=hT.below hb0
 clear hb0
 refine callsIn_of_wp Try.func135 rfl trivial ?_ rfl
 simp only [Try.ntmps135,List.size_toArray,List.length_cons,List.length_nil,Nat.reduceAdd,Nat.reduceSub,Array.replicate_succ,Array.replicate_zero,List.push_toArray,List.append_toArray,List.nil_append,List.cons_append]
 gi_wp2_with fail
 refine KP (wpIn_wide.2 ?_)
 replace mT:=ah mT
 replace mP:=ah mP
 replace mX:=ah mX
 replace h0:=hJa _ _ _ h0 (bW (Below.refl _ _))
 replace hE:=hE.below (bW (Below.refl _ _))
 refine jI (n:=14) (S:=fun w'=>w'.cell? ⟨bp,0,none⟩ = some (.pointer (some ⟨b,0,none⟩))∧w'.cell? ⟨bx,0,none⟩ = some (.int .i64 x.f0.f0)∧w'.cell? ⟨bx,1,none⟩ = some (.int .i64 x.f0.f1)∧w'.cell? ⟨b,0,none⟩ = some (.int .i64 s.nx)) (ds:=[]) #[false,false,false,false,false,false,false,false,false,false,false,false,false,false] aR rfl rfl ⟨((aa mP 0).trans rfl),((aa mX 0).trans rfl),((aa mX 1).trans rfl),((aa mT 0).trans rfl)⟩ (fun hHeld=>?_)
 generalize hWd:World.drew _ = Wx at*
 clear hWd
 refine dJ (i:=1) (N:=some 12) aR ?_
 refine ja (i:=0) (N:=some 11) aR hHeld ?_
 refine ja (i:=2) (N:=some 13) aR hHeld ?_
 refine ja (i:=3) (N:=some 14) aR hHeld ?_
 refine dJ (i:=4) (N:=some 15) aR ?_
 refine dJ (i:=5) (N:=some 16) aR ?_
 refine dJ (i:=6) (N:=some 17) aR ?_
 refine ja (i:=7) (N:=some 18) aR hHeld ?_
 refine jq (i:=8) (N:=some 19) #[true,true,true,true,true,true,true,true,true,false,false,false,false,false] rfl rfl aR (by decide) (fun K hK=>?_)
 have pg:=kN Wx (hT.below hE.1)
 refine gV Try.func136 aR rfl #[.pointer (some ⟨b,0,none⟩),.agg #[.int .i64 x.f0.f0,.int .i64 x.f0.f1],.int .i64 s.nx] (by rfl) rfl rfl abu ?_
 with_reducible refine (pg).mono ?_
 rintro e W1 ⟨rfl,hb2⟩
 refine ⟨_,rfl,?_⟩
 clear pg
 replace mT:=aV mT hb2
 replace mP:=aV mP hb2
 replace mX:=aV mX hb2
 replace h0:=hJa _ _ _ h0 hb2
 replace hE:=hE.below hb2
 clear hb2
 refine hK.out _ _ ⟨((aa mP 0).trans rfl),((aa mX 0).trans rfl),((aa mX 1).trans rfl),((aa mT 0).trans rfl)⟩ (fun hHeld=>?_)
 clear hK K
 refine ek (by show Act.put _ (some 19) _ = _;simp only [Act.put,List.setIfInBounds_toArray,List.set_cons_zero,List.set_cons_succ,fD,fJ];rfl) ?_
 refine dJ (i:=9) (N:=some 10) aR ?_
 refine dJ (i:=10) (N:=some 20) aR ?_
 refine dJ (i:=11) (N:=some 21) aR ?_
 refine dJ (i:=12) (N:=some 4) aR ?_
 refine dJ (i:=13) (N:=some 5) aR ?_
 refine lC aR ?_
 refine Bn ?_
 gi_wp2_with fail
 refine KP (wpIn_wide.2 ?_)
 replace mT:=ah mT
 replace mP:=ah mP
 replace mX:=ah mX
 replace h0:=hJa _ _ _ h0 (bW (Below.refl _ _))
 replace hE:=hE.below (bW (Below.refl _ _))
 refine jI (n:=14) (S:=fun w'=>w'.cell? ⟨bp,0,none⟩ = some (.pointer (some ⟨b,0,none⟩))∧w'.cell? ⟨bx,2,none⟩ = some (.int .i64 x.f1.f0)∧w'.cell? ⟨bx,3,none⟩ = some (.int .i64 x.f1.f1)∧w'.cell? ⟨b,1,none⟩ = some (.int .i64 s.ny)) (ds:=[]) #[false,false,false,false,false,false,false,false,false,false,false,false,false,false] aR rfl rfl ⟨((aa mP 0).trans rfl),((aa mX 2).trans rfl),((aa mX 3).trans rfl),((aa mT 1).trans rfl)⟩ (fun hHeld=>?_)
 generalize hWd:World.drew _ = Wx at*
 clear hWd
 refine dJ (i:=1) (N:=some 24) aR ?_
 refine ja (i:=0) (N:=some 23) aR hHeld ?_
 refine ja (i:=2) (N:=some 25) aR hHeld ?_
 refine ja (i:=3) (N:=some 26) aR hHeld ?_
 refine dJ (i:=4) (N:=some 27) aR ?_
 refine dJ (i:=5) (N:=some 28) aR ?_
 refine dJ (i:=6) (N:=some 29) aR ?_
 refine ja (i:=7) (N:=some 30) aR hHeld ?_
 refine jq (i:=8) (N:=some 31) #[true,true,true,true,true,true,true,true,true,false,false,false,false,false] rfl rfl aR (by decide) (fun K hK=>?_)
 have pg:=kM Wx (hT.below hE.1)
 refine gV Try.func136 aR rfl #[.pointer (some ⟨b,0,none⟩),.agg #[.int .i64 x.f1.f0,.int .i64 x.f1.f1],.int .i64 s.ny] (by rfl) rfl rfl abu ?_
 with_reducible refine (pg).mono ?_
 rintro e W2 ⟨rfl,hb2⟩
 refine ⟨_,rfl,?_⟩
 clear pg
 replace mT:=aV mT hb2
 replace mP:=aV mP hb2
 replace mX:=aV mX hb2
 replace h0:=hJa _ _ _ h0 hb2
 replace hE:=hE.below hb2
 clear hb2
 refine hK.out _ _ ⟨((aa mP 0).trans rfl),((aa mX 2).trans rfl),((aa mX 3).trans rfl),((aa mT 1).trans rfl)⟩ (fun hHeld=>?_)
 clear hK K
 refine ek arU ?_
 refine dJ (i:=9) (N:=some 22) aR ?_
 refine dJ (i:=10) (N:=some 32) aR ?_
 refine dJ (i:=11) (N:=some 33) aR ?_
 refine dJ (i:=12) (N:=some 6) aR ?_
 refine dJ (i:=13) (N:=some 7) aR ?_
 refine lC aR ?_
 refine Bn ?_
 clear mT mP mX kN kM
 gi_wp2
 gi_loopw [8] (fun i wr=>∃ (q:Nat) (pre:List (zZ s)),q≤(k1+1 - k0).toNat∧i = .int .i64 (k0+(q:Int))∧Hid (pre.map Subtype.val = zQ s.nx i0 (i1+1 - i0).toNat k0 q 0)∧Env w0 bp bx b x wr∧J pre wr) (fun i _=>(k1+1 - intOf i).toNat)
 case atStart=>exact ⟨0,[],Nat.zero_le _,by simp,Lib.hid (by rw [Yc];rfl),hE,h0⟩
 case round =>
  clear hE h0
  obtain ⟨q,pre,hq,rfl,HP,hE,hJs⟩:=hrel
  by_cases hlt:k0+(q:Int)≤k1
  ·gi_wp2
   gi_loopw [9] (fun i wr2=>∃ (j:Nat) (acL:List (zZ s)),j≤(i1+1 - i0).toNat∧i = .int .i64 (i0+(j:Int))∧Hid (acL.map Subtype.val = zQ s.nx i0 (i1+1 - i0).toNat k0 q j)∧Env w0 bp bx b x wr2∧J acL wr2) (fun i _=>(i1+1 - intOf i).toNat)
   case atStart=>exact ⟨0,pre,Nat.zero_le _,by simp,HP,hE,hJs⟩
   case round =>
    clear hE hJs
    obtain ⟨j,acL,hj,rfl,HQ,hE,hJ2⟩:=hrel
    by_cases hjk:i0+(j:Int)≤i1
    ·have hlen:acL.length < (nW s x).length:=by
      have h1:=Q8 (nx:=s.nx) (i0:=i0) (k0:=k0) (show q < (k1+1 - k0).toNat by omega) (show j+1≤(i1+1 - i0).toNat by omega)
      have h2:=h1.length_le
      rw [Ib,← HQ.out,← HAll.out] at h2
      simp at h2
      omega
     have hr:=row_in (ny:=s.ny) (k:=k0+(q:Int)) hnx.1 (by omega) (by omega)
     have hxy:=fI (show 0≤s.nx by omega) hnx.2 (show 0≤s.ny by omega) hny.2
     obtain ⟨fn,tmps,assign,body,hy,hR⟩:=hY acL ⟨(k0+(q:Int))*s.nx+(i0+(j:Int)),by omega,by omega⟩ _ hJ2 hlen
     dsimp only at hy
     have hE0:=hE
     obtain ⟨hb0,mP,_⟩:=hE0
     obtain ⟨A7,c7,A8,c8,mT,_⟩:=hT.below hb0
     clear hb0
     have cP:=(aa mP 0).trans rfl
     have cT:=(aa mT 0).trans rfl
     clear mT mP
     gi_wp2
     refine hR.mono ?_
     rintro e W3 (⟨rfl,hJ3,hk3⟩|⟨rfl,hJx3⟩)
     ·clear cP cT
      have hE3:=hKp _ _ hk3 hE
      clear hk3 hE
      gi_wp2
      go_roundw
      case rel=>exact ⟨j+1,_,by omega,by simp;omega,Lib.hid (by rw [List.map_append,HQ.out,Ib];rfl),hE3,hJ3⟩
      case measure=>simp [intOf];omega
     ·gi_wp2
      refine bodyPost_ret (results_none rfl _ _ _) rfl ?_
      refine ⟨⟨_,rfl⟩,.inr ⟨_,?_,hJx3⟩⟩
      show List.map Subtype.val _ <+:_
      rw [List.map_append,HQ.out,List.map_singleton,← Ib,HAll.out]
      exact Q8 (by omega) (by omega)
    ·obtain rfl:j = (i1+1 - i0).toNat:=by omega
     gi_wp2
     go_roundw
     case rel=>exact ⟨q+1,acL,by omega,by simp;omega,Lib.hid (by rw [HQ.out,Q7,← LP]),hE,hJ2⟩
     case measure=>simp [intOf];omega
  ·obtain rfl:q = (k1+1 - k0).toNat:=by omega
   gi_wp2
   go_end0
   exact ⟨⟨_,rfl⟩,.inl ⟨pre,by unfold acY;rw [HAll.out,HP.out,Q7],hJs⟩⟩
end Go.Proofs.Ytmhaiihjfgfaoaa.Gl
end
