import Derived.Test.YtmhaiihjfgfaoaaGaa4
import Derived.Test.YtmhaiihjfgfaoaaGaa3
import Derived.Test.YtmhaiihjfgfaoaaGaa1
section
namespace Go.Proofs.Ytmhaiihjfgfaoaa.Gl
open Go.RowKit Go.Shelf Go.Proofs.YtmhaiihjfgfaoaaW.PrintWords Go.Proofs.YtmhaiihjfgfaoaaW.PrintLast Go.Proofs.YtmhaiihjfgfaoaaW.PrintMore Go.Proofs.Ytmhaiihjfgfaoaa.Pr Go.Proofs.YtmhaiihjfgfaoaaW.Round
set_option linter.unusedVariables false
set_option linter.unusedSimpArgs false
attribute [local go_sem] fo fq gu gz fu
def mM (x lo hi:Int):Bool:=decide (lo≤x) && decide (x≤hi)
theorem jB {x lo hi:Int}:mM x lo hi = true↔lo≤x∧x≤hi:=by unfold mM;simp
theorem Az (x lo hi:Int) (w:World):Calls Try.prog 74 #[.int .i64 x,.int .i64 lo,.int .i64 hi] w (vP (.bool (mM x lo hi)) w) :=
 (dn.calls x lo hi (mM x lo hi) w (by
  unfold dn.f mM
  by_cases h:x ≥ lo
  ·rw [if_pos h,show decide (lo≤x) = true from decide_eq_true h];simp
  ·rw [if_neg h,show decide (lo≤x) = false from decide_eq_false h];simp)).mono fun _ _ h=>⟨h.1,h.2.below⟩
def MH (lo hi:Int):Bool:=!(decide (lo > hi) || decide (lo < -1073741824) || decide (hi > 1073741824))
theorem xW {lo hi:Int}:MH lo hi = true↔lo≤hi∧-1073741824≤lo∧hi≤1073741824:=by
 unfold MH
 simp only [Bool.not_eq_true',Bool.or_eq_false_iff,decide_eq_false_iff_not]
 omega
theorem TD (k:Nat) (lo hi:Int):jF.f (k+2) lo hi = some (if MH lo hi then 0 else 2):=by
 unfold jF.f eB.f MH
 simp only [eB.l0,oJ]
 by_cases h1:hi < lo
 ·simp [h1]
  try omega
 ·by_cases h2:lo < -1073741824
  ·simp [h1,h2]
   try omega
  ·by_cases h3:1073741824 < hi
   ·simp [h1,h2,h3]
   ·have h3':hi≤1073741824:=by omega
    have h2':-1073741824≤lo:=by omega
    have h1':lo≤hi:=by omega
    simp [h1,h2,h3,wrap64,h3',h2',h1']
def xh (lo hi a b:Int):Bool:=MH lo hi && decide (a≤lo) && decide (hi≤b)
theorem Ro (k:Nat) (lo hi a b:Int):cO.f (k+2) lo hi a b = some (xh lo hi a b):=by
 unfold cO.f xh
 rw [TD,Option.bind_some]
 cases MH lo hi with
 |false=>rfl
 |true =>
  by_cases h:lo ≥ a
  ·rw [if_pos rfl,if_pos rfl,if_pos h,show decide (a≤lo) = true from decide_eq_true h];simp
  ·rw [if_pos rfl,if_pos rfl,if_neg h,show decide (a≤lo) = false from decide_eq_false h];simp
theorem XF (lo hi a b:Int) (w:World):Calls Try.prog 77 #[.agg #[.int .i64 lo,.int .i64 hi],.int .i64 a,.int .i64 b] w (vP (.bool (xh lo hi a b)) w):=cO.calls 2 _ _ _ _ _ w (Ro 0 lo hi a b)
theorem TE {α:Type} {p:α→Bool} {l:List α} {k:Nat} {x:α} (hk:l[k]? = some x) (h0:(l.take k).any p = false) (hx:p x = true):l.findIdx? p = some k:=by
 have hlt:=(List.getElem?_eq_some_iff.1 hk).1
 rw [List.findIdx?_eq_some_iff_getElem]
 refine ⟨hlt,by rw [(List.getElem?_eq_some_iff.1 hk).2];exact hx,fun j hj=>?_⟩
 have:=List.any_eq_false.1 h0 l[j] (by rw [List.mem_take_iff_getElem];exact ⟨j,by omega,rfl⟩)
 simpa using this
def TF {α:Type} (p:α→Bool) (l:List α):Int:=match l.findIdx? p with|none=>-1|some i=>i
theorem aaq {α:Type} (p:α→Bool) (l:List α):(TF p l < 0∧l.any p = false)∨(0≤TF p l∧l.any p = true):=by
 unfold TF
 cases h:l.findIdx? p with
 |none =>
  refine .inl ⟨by decide,?_⟩
  rw [List.any_eq_false]
  intro x hx
  have:=List.findIdx?_eq_none_iff.1 h x hx
  simp [this]
 |some i =>
  obtain ⟨h1,h2,_⟩:=List.findIdx?_eq_some_iff_getElem.1 h
  exact .inr ⟨by dsimp only;omega,List.any_eq_true.2 ⟨_,List.getElem_mem h1,h2⟩⟩
section
variable {P:Program} {Q:Exit→Act→World→Prop} {ops:Array Oper}
end
set_option maxRecDepth 100000 in
set_option maxHeartbeats 2000000 in
theorem YS (gs:Nat) (lb:Array Value) (g:mQ→Bool) (A:Option Addr) (c:Nat) (l:List mQ) (w:World) (hC:Kd.C xK w A l.length l) (hc:l.length≤c)
 (egs:∀ args w,(callFunc gs args).run Try.prog w = .ok (.enter gs args) w)
 (hg:∀ x W,Below w.heap.size w W→Calls Try.prog gs (#[.agg #[.int .i64 x.f0.f0,.int .i64 x.f0.f1,.int .i64 x.f1.f0,.int .i64 x.f1.f1]]++lb) W (vP (.bool (g x)) W)):
 Calls Try.prog 121 #[.slice A l.length c,.func (.func gs) #[] lb] w (vP (.int .i64 (TF g l)) w):=by
 have Yt:=Try.underlying40
 have sU:=Try.underlying27
 have hb:=hC.2.1
 have HI:Hid (TF g l = match l.findIdx? g with|none=>-1|some i=>(i:Int)):=Lib.hid rfl
 go_enter Try.func121,Try.ntmps121
 go_wp2
 go_loopw [8] (fun i wr=>∃ (k:Nat),k≤l.length∧i = .int .i64 k∧Hid ((l.take k).any g = false)∧Below w.heap.size w wr) (fun i _=>l.length - (intOf i).toNat)
 case atStart=>exact ⟨0,Nat.zero_le _,rfl,Lib.hid (by simp),Below.refl _ _⟩
 case round =>
  obtain ⟨k,hk,rfl,HA,mB⟩:=hrel
  by_cases hlt:k < l.length
  ·obtain ⟨ad,rfl,hx0,hx1,hx2,hx3⟩:=yE hC k (by omega) (by omega)
   simp only [Int.toNat_natCast] at hx0 hx1 hx2 hx3
   replace hx0:=(mB.cell (World.block_lt_of_cell? w _ hx0)).trans hx0
   replace hx1:=(mB.cell (World.block_lt_of_cell? w _ hx1)).trans hx1
   replace hx2:=(mB.cell (World.block_lt_of_cell? w _ hx2)).trans hx2
   replace hx3:=(mB.cell (World.block_lt_of_cell? w _ hx3)).trans hx3
   have hlk:l[k]? = some (bn l (k:Int)):=by simp [bn,List.getD_eq_getElem?_getD,hlt]
   have htk:l.take (k+1) = l.take k++[bn l (k:Int)]:=by rw [List.take_add_one,hlk];rfl
   generalize bn l (k:Int) = x at*
   have HT:=Lib.hid htk
   have HK:=Lib.hid hlk
   clear htk hlk
   go_wp2_with fail
   have hcon:=hg x wr mB
   (with_reducible refine hcon.mono ?_)
   clear hcon hx0 hx1 hx2 hx3
   rintro e W1 ⟨rfl,hb1⟩
   replace mB:=ay mB hb1
   clear hb1
   cases hbx:g x with
   |true =>
    have HE:=Lib.hid (HI.out.trans (by rw [TE HK.out HA.out hbx]))
    clear hbx
    go_wp2
    go_ret
    exact ⟨by rw [HE.out];rfl,mB⟩
   |false =>
    have HB:=Lib.hid hbx
    clear hbx
    go_wp2
    go_roundw
    case rel=>exact ⟨k+1,by omega,by simp,Lib.hid (by rw [HT.out,List.any_append,HA.out,List.any_cons,HB.out];rfl),mB⟩
    case measure=>simp [intOf];omega
  ·obtain rfl:k = l.length:=by omega
   rw [List.take_length] at HA
   have hn:l.findIdx? g = none:=by
    rw [List.findIdx?_eq_none_iff]
    intro x hx
    have:=List.any_eq_false.1 HA.out x hx
    simpa using this
   have HE:=Lib.hid (HI.out.trans (by rw [hn]))
   clear hn
   go_wp2
   go_ret
   exact ⟨by rw [HE.out];rfl,mB⟩
set_option maxHeartbeats 1000000 in
theorem TG (gs:Nat) (lb:Array Value) (g:mQ→Bool) (A:Option Addr) (c:Nat) (l:List mQ) (w:World) (hC:Kd.C xK w A l.length l) (hc:l.length≤c)
 (egs:∀ args w,(callFunc gs args).run Try.prog w = .ok (.enter gs args) w)
 (hg:∀ x W,Below w.heap.size w W→Calls Try.prog gs (#[.agg #[.int .i64 x.f0.f0,.int .i64 x.f0.f1,.int .i64 x.f1.f0,.int .i64 x.f1.f1]]++lb) W (vP (.bool (g x)) W)):
 Calls Try.prog 75 #[.slice A l.length c,.func (.func gs) #[] lb] w (vP (.bool (l.any g)) w):=by
 have hcon:=YS gs lb g A c l w hC hc egs hg
 clear hg egs
 go_enter Try.func75,Try.ntmps75
 go_wp2_with fail
 (with_reducible refine hcon.mono ?_)
 clear hcon
 rintro e W1 ⟨rfl,mB⟩
 rcases aaq g l with ⟨h1,h2⟩|⟨h1,h2⟩
 ·have HA:=Lib.hid h2
  have hd:decide (0≤TF g l) = false:=decide_eq_false (by omega)
  clear h1 h2
  go_wp2
  go_ret
  exact ⟨by rw [HA.out];rfl,mB⟩
 ·have HA:=Lib.hid h2
  have hd:decide (0≤TF g l) = true:=decide_eq_true (by omega)
  clear h1 h2
  go_wp2
  go_ret
  exact ⟨by rw [HA.out];rfl,mB⟩
def Jl (most:Int) (c:mQ):Bool:=!xh c.f0.f0 c.f0.f1 (-most) most || !xh c.f1.f0 c.f1.f1 (-most) most
set_option maxRecDepth 100000 in
set_option maxHeartbeats 2000000 in
theorem afj (g1:Nat) (s:oH) (A7 A8:Option Addr) (c7 c8:Nat) (c:mQ) (w:World) (hm0:0≤s.most) (hm1:s.most≤5000) (hB:iT w g1 #[.int .i64 s.nx,.int .i64 s.ny,.int .i64 s.cell,.int .i64 s.slot,.int .i64 s.slots,.int .i64 s.layers,.int .i64 s.most,.slice A7 s.shores.length c7,.slice A8 s.currents.length c8] 25):
 Calls Try.prog 76 #[.agg #[.int .i64 c.f0.f0,.int .i64 c.f0.f1,.int .i64 c.f1.f0,.int .i64 c.f1.f1],.pointer (some ⟨g1,0,none⟩)] w (vP (.bool (Jl s.most c)) w):=by
 have Yt:=Try.underlying40
 have sU:=Try.underlying27
 have HB:Hid (Jl s.most c = (!xh c.f0.f0 c.f0.f1 (-s.most) s.most || !xh c.f1.f0 c.f1.f1 (-s.most) s.most)):=Lib.hid rfl
 have c6:∀ o_,(w.alloc o_).cell? ⟨g1,6,none⟩ = some (.int .i64 s.most):=fun o_=>(aa (af hB o_) 6).trans rfl
 go_enter Try.func76,Try.ntmps76
 go_wp2_with fail
 clear c6
 have m1:=hB
 clear hB
 have aBp:=aU m1
 have m2:iT (w.alloc (.cells #[.int .i64 c.f0.f0,.int .i64 c.f0.f1,.int .i64 c.f1.f0,.int .i64 c.f1.f1] 40)) (w.heap.size) #[.int .i64 c.f0.f0,.int .i64 c.f0.f1,.int .i64 c.f1.f0,.int .i64 c.f1.f1] 40:=(by have h_:=fK w (.cells #[.int .i64 c.f0.f0,.int .i64 c.f0.f1,.int .i64 c.f1.f0,.int .i64 c.f1.f1] 40);first|exact h_|(simp only [World.size_alloc] at h_;exact h_))
 replace m1:iT (w.alloc (.cells #[.int .i64 c.f0.f0,.int .i64 c.f0.f1,.int .i64 c.f1.f0,.int .i64 c.f1.f1] 40)) g1 #[.int .i64 s.nx,.int .i64 s.ny,.int .i64 s.cell,.int .i64 s.slot,.int .i64 s.slots,.int .i64 s.layers,.int .i64 s.most,.slice A7 s.shores.length c7,.slice A8 s.currents.length c8] 25:=(af m1 _)
 have mB:Below w.heap.size w (w.alloc (.cells #[.int .i64 c.f0.f0,.int .i64 c.f0.f1,.int .i64 c.f1.f0,.int .i64 c.f1.f1] 40)):=(au (Below.refl w.heap.size w) _)
 have qi:w.heap.size≤w.heap.size:=Nat.le_refl _
 generalize zx:(w.alloc (.cells #[.int .i64 c.f0.f0,.int .i64 c.f0.f1,.int .i64 c.f1.f0,.int .i64 c.f1.f1] 40)) = W1 at m1 m2 mB ⊢
 clear zx
 generalize hg2:w.heap.size = g2 at m2 ⊢
 have ahU:g1≠g2:=by omega
 have aBq:g2≠g1:=ahU.symm
 have hG2:w.heap.size≤g2:=by omega
 clear qi aBp
 try clear hg2
 have DJ:w.heap.size≤W1.heap.size:=mB.size
 have hcon:=XF c.f0.f0 c.f0.f1 (-s.most) s.most W1
 (with_reducible refine hcon.mono ?_)
 clear hcon
 rintro e W2 ⟨rfl,hb⟩
 replace m1:=ax m1 hb
 replace m2:=ax m2 hb
 replace mB:=ay mB hb
 clear hb
 have zy:w.heap.size≤W2.heap.size:=mB.size
 cases h0:xh c.f0.f0 c.f0.f1 (-s.most) s.most with
 |false =>
  have HR:=Lib.hid (HB.out.trans (by rw [h0];rfl:_ = true))
  clear h0 HB
  go_wp2
  go_ret
  exact ⟨by rw [HR.out];rfl,mB⟩
 |true =>
  have H0:=Lib.hid h0
  clear h0
  have ao2:=(aa m2 0).trans rfl
  have ao3:=(aa m2 1).trans rfl
  have ao4:=(aa m2 2).trans rfl
  have ao5:=(aa m2 3).trans rfl
  have c6:=(aa m1 6).trans rfl
  go_wp2_with fail
  clear ao2
  clear ao3
  clear ao4
  clear ao5
  clear c6
  have hcon:=XF c.f1.f0 c.f1.f1 (-s.most) s.most W2
  (with_reducible refine hcon.mono ?_)
  clear hcon
  rintro e W3 ⟨rfl,hb⟩
  replace m1:=ax m1 hb
  replace m2:=ax m2 hb
  replace mB:=ay mB hb
  clear hb
  have Jc:w.heap.size≤W3.heap.size:=mB.size
  cases h1:xh c.f1.f0 c.f1.f1 (-s.most) s.most with
  |false =>
   have HR:=Lib.hid (HB.out.trans (by rw [H0.out,h1];rfl:_ = true))
   clear h1 HB
   go_wp2
   go_ret
   exact ⟨by rw [HR.out];rfl,mB⟩
  |true =>
   have HR:=Lib.hid (HB.out.trans (by rw [H0.out,h1];rfl:_ = false))
   clear h1 HB
   go_wp2
   go_ret
   exact ⟨by rw [HR.out];rfl,mB⟩
def Hm (s:oH):Bool:=mM s.nx 1 12 && mM s.ny 1 12 && mM s.cell 100 65536 && mM s.slot 1 1048576 && mM s.slots 1 16 && mM s.layers 1 3 && mM s.most 0 5000 && decide ((s.shores.length:Int) = s.nx*s.ny) && decide ((s.currents.length:Int) = s.slots*s.layers*(s.nx*s.ny)) && !s.currents.any (Jl s.most)
def sH (s:oH):Int:=if Hm s then 0 else 2
set_option maxRecDepth 100000 in
set_option maxHeartbeats 8000000 in
theorem Qs (s:oH) (A7 A8:Option Addr) (c7 c8:Nat) (w:World) (h7:s.shores.length≤c7) (hC7:Kd.C Kd.bool w A7 s.shores.length s.shores) (h8:s.currents.length≤c8) (R4:Kd.C xK w A8 s.currents.length s.currents):
 Calls Try.prog 25 #[.agg #[.int .i64 s.nx,.int .i64 s.ny,.int .i64 s.cell,.int .i64 s.slot,.int .i64 s.slots,.int .i64 s.layers,.int .i64 s.most,.slice A7 s.shores.length c7,.slice A8 s.currents.length c8]] w (vP (.int .i64 (sH s)) w):=by
 have Dx:=Try.underlying25
 have hb7:=hC7.2.1
 have hb8:=R4.2.1
 have HE:Hid (sH s = if Hm s then 0 else 2):=Lib.hid rfl
 have HB:Hid (Hm s = (mM s.nx 1 12 && mM s.ny 1 12 && mM s.cell 100 65536 && mM s.slot 1 1048576 && mM s.slots 1 16 && mM s.layers 1 3 && mM s.most 0 5000 && decide ((s.shores.length:Int) = s.nx*s.ny) && decide ((s.currents.length:Int) = s.slots*s.layers*(s.nx*s.ny)) && !s.currents.any (Jl s.most))):=Lib.hid rfl
 go_enter Try.func25,Try.ntmps25
 go_wp2_with fail
 have m1:iT (w.alloc (.cells #[.int .i64 s.nx,.int .i64 s.ny,.int .i64 s.cell,.int .i64 s.slot,.int .i64 s.slots,.int .i64 s.layers,.int .i64 s.most,.slice A7 s.shores.length c7,.slice A8 s.currents.length c8] 25)) (w.heap.size) #[.int .i64 s.nx,.int .i64 s.ny,.int .i64 s.cell,.int .i64 s.slot,.int .i64 s.slots,.int .i64 s.layers,.int .i64 s.most,.slice A7 s.shores.length c7,.slice A8 s.currents.length c8] 25:=(by have h_:=fK w (.cells #[.int .i64 s.nx,.int .i64 s.ny,.int .i64 s.cell,.int .i64 s.slot,.int .i64 s.slots,.int .i64 s.layers,.int .i64 s.most,.slice A7 s.shores.length c7,.slice A8 s.currents.length c8] 25);first|exact h_|(simp only [World.size_alloc] at h_;exact h_))
 have mB:Below w.heap.size w (w.alloc (.cells #[.int .i64 s.nx,.int .i64 s.ny,.int .i64 s.cell,.int .i64 s.slot,.int .i64 s.slots,.int .i64 s.layers,.int .i64 s.most,.slice A7 s.shores.length c7,.slice A8 s.currents.length c8] 25)):=(au (Below.refl w.heap.size w) _)
 have qi:w.heap.size≤w.heap.size:=Nat.le_refl _
 generalize zx:(w.alloc (.cells #[.int .i64 s.nx,.int .i64 s.ny,.int .i64 s.cell,.int .i64 s.slot,.int .i64 s.slots,.int .i64 s.layers,.int .i64 s.most,.slice A7 s.shores.length c7,.slice A8 s.currents.length c8] 25)) = W0 at m1 mB ⊢
 clear zx
 generalize hg1:w.heap.size = g1 at m1 ⊢
 have hG1:w.heap.size≤g1:=by omega
 clear qi
 try clear hg1
 have Ns:w.heap.size≤W0.heap.size:=mB.size
 have hcon:=Az s.nx 1 12 W0
 (with_reducible refine hcon.mono ?_)
 clear hcon
 rintro e W1 ⟨rfl,hb⟩
 replace m1:=ax m1 hb
 replace mB:=ay mB hb
 clear hb
 have DJ:w.heap.size≤W1.heap.size:=mB.size
 cases h_:mM s.nx 1 12 with
 |false =>
  have HZ:Hid (sH s = 2):=Lib.hid (by rw [HE.out,HB.out,h_];simp)
  clear h_ HE HB
  go_wp2
  go_ret
  exact ⟨by rw [HZ.out];rfl,mB⟩
 |true =>
  have b0:=jB.1 h_
  have H0:=Lib.hid h_
  clear h_
  have Eg:=(aa m1 0).trans rfl
  have Eh:=(aa m1 1).trans rfl
  have Ei:=(aa m1 2).trans rfl
  have Ej:=(aa m1 3).trans rfl
  have El:=(aa m1 4).trans rfl
  have Em:=(aa m1 5).trans rfl
  have En:=(aa m1 6).trans rfl
  have Eo:=(aa m1 7).trans rfl
  have Ep:=(aa m1 8).trans rfl
  go_wp2_with fail
  clear Eg
  clear Eh
  clear Ei
  clear Ej
  clear El
  clear Em
  clear En
  clear Eo
  clear Ep
  have hcon:=Az s.ny 1 12 W1
  (with_reducible refine hcon.mono ?_)
  clear hcon
  rintro e W2 ⟨rfl,hb⟩
  replace m1:=ax m1 hb
  replace mB:=ay mB hb
  clear hb
  have zy:w.heap.size≤W2.heap.size:=mB.size
  cases h_:mM s.ny 1 12 with
  |false =>
   have HZ:Hid (sH s = 2):=Lib.hid (by rw [HE.out,HB.out,H0.out,h_];simp)
   clear h_ HE HB
   go_wp2
   go_ret
   exact ⟨by rw [HZ.out];rfl,mB⟩
  |true =>
   have b1:=jB.1 h_
   have H1:=Lib.hid h_
   clear h_
   have Eg:=(aa m1 0).trans rfl
   have Eh:=(aa m1 1).trans rfl
   have Ei:=(aa m1 2).trans rfl
   have Ej:=(aa m1 3).trans rfl
   have El:=(aa m1 4).trans rfl
   have Em:=(aa m1 5).trans rfl
   have En:=(aa m1 6).trans rfl
   have Eo:=(aa m1 7).trans rfl
   have Ep:=(aa m1 8).trans rfl
   go_wp2_with fail
   clear Eg
   clear Eh
   clear Ei
   clear Ej
   clear El
   clear Em
   clear En
   clear Eo
   clear Ep
   have hcon:=Az s.cell 100 65536 W2
   (with_reducible refine hcon.mono ?_)
   clear hcon
   rintro e W3 ⟨rfl,hb⟩
   replace m1:=ax m1 hb
   replace mB:=ay mB hb
   clear hb
   have Jc:w.heap.size≤W3.heap.size:=mB.size
   cases h_:mM s.cell 100 65536 with
   |false =>
    have HZ:Hid (sH s = 2):=Lib.hid (by rw [HE.out,HB.out,H0.out,H1.out,h_];simp)
    clear h_ HE HB
    go_wp2
    go_ret
    exact ⟨by rw [HZ.out];rfl,mB⟩
   |true =>
    have b2:=jB.1 h_
    have H2:=Lib.hid h_
    clear h_
    have Eg:=(aa m1 0).trans rfl
    have Eh:=(aa m1 1).trans rfl
    have Ei:=(aa m1 2).trans rfl
    have Ej:=(aa m1 3).trans rfl
    have El:=(aa m1 4).trans rfl
    have Em:=(aa m1 5).trans rfl
    have En:=(aa m1 6).trans rfl
    have Eo:=(aa m1 7).trans rfl
    have Ep:=(aa m1 8).trans rfl
    go_wp2_with fail
    clear Eg
    clear Eh
    clear Ei
    clear Ej
    clear El
    clear Em
    clear En
    clear Eo
    clear Ep
    have hcon:=Az s.slot 1 1048576 W3
    (with_reducible refine hcon.mono ?_)
    clear hcon
    rintro e W4 ⟨rfl,hb⟩
    replace m1:=ax m1 hb
    replace mB:=ay mB hb
    clear hb
    have Rp:w.heap.size≤W4.heap.size:=mB.size
    cases h_:mM s.slot 1 1048576 with
    |false =>
     have HZ:Hid (sH s = 2):=Lib.hid (by rw [HE.out,HB.out,H0.out,H1.out,H2.out,h_];simp)
     clear h_ HE HB
     go_wp2
     go_ret
     exact ⟨by rw [HZ.out];rfl,mB⟩
    |true =>
     have b3:=jB.1 h_
     have H3:=Lib.hid h_
     clear h_
     have Eg:=(aa m1 0).trans rfl
     have Eh:=(aa m1 1).trans rfl
     have Ei:=(aa m1 2).trans rfl
     have Ej:=(aa m1 3).trans rfl
     have El:=(aa m1 4).trans rfl
     have Em:=(aa m1 5).trans rfl
     have En:=(aa m1 6).trans rfl
     have Eo:=(aa m1 7).trans rfl
     have Ep:=(aa m1 8).trans rfl
     go_wp2_with fail
     clear Eg
     clear Eh
     clear Ei
     clear Ej
     clear El
     clear Em
     clear En
     clear Eo
     clear Ep
     have hcon:=Az s.slots 1 16 W4
     (with_reducible refine hcon.mono ?_)
     clear hcon
     rintro e W5 ⟨rfl,hb⟩
     replace m1:=ax m1 hb
     replace mB:=ay mB hb
     clear hb
     have XG:w.heap.size≤W5.heap.size:=mB.size
     cases h_:mM s.slots 1 16 with
     |false =>
      have HZ:Hid (sH s = 2):=Lib.hid (by rw [HE.out,HB.out,H0.out,H1.out,H2.out,H3.out,h_];simp)
      clear h_ HE HB
      go_wp2
      go_ret
      exact ⟨by rw [HZ.out];rfl,mB⟩
     |true =>
      have b4:=jB.1 h_
      have H4:=Lib.hid h_
      clear h_
      have Eg:=(aa m1 0).trans rfl
      have Eh:=(aa m1 1).trans rfl
      have Ei:=(aa m1 2).trans rfl
      have Ej:=(aa m1 3).trans rfl
      have El:=(aa m1 4).trans rfl
      have Em:=(aa m1 5).trans rfl
      have En:=(aa m1 6).trans rfl
      have Eo:=(aa m1 7).trans rfl
      have Ep:=(aa m1 8).trans rfl
      go_wp2_with fail
      clear Eg
      clear Eh
      clear Ei
      clear Ej
      clear El
      clear Em
      clear En
      clear Eo
      clear Ep
      have hcon:=Az s.layers 1 3 W5
      (with_reducible refine hcon.mono ?_)
      clear hcon
      rintro e W6 ⟨rfl,hb⟩
      replace m1:=ax m1 hb
      replace mB:=ay mB hb
      clear hb
      have ao6:w.heap.size≤W6.heap.size:=mB.size
      cases h_:mM s.layers 1 3 with
      |false =>
       have HZ:Hid (sH s = 2):=Lib.hid (by rw [HE.out,HB.out,H0.out,H1.out,H2.out,H3.out,H4.out,h_];simp)
       clear h_ HE HB
       go_wp2
       go_ret
       exact ⟨by rw [HZ.out];rfl,mB⟩
      |true =>
       have b5:=jB.1 h_
       have H5:=Lib.hid h_
       clear h_
       have Eg:=(aa m1 0).trans rfl
       have Eh:=(aa m1 1).trans rfl
       have Ei:=(aa m1 2).trans rfl
       have Ej:=(aa m1 3).trans rfl
       have El:=(aa m1 4).trans rfl
       have Em:=(aa m1 5).trans rfl
       have En:=(aa m1 6).trans rfl
       have Eo:=(aa m1 7).trans rfl
       have Ep:=(aa m1 8).trans rfl
       go_wp2_with fail
       clear Eg
       clear Eh
       clear Ei
       clear Ej
       clear El
       clear Em
       clear En
       clear Eo
       clear Ep
       have hcon:=Az s.most 0 5000 W6
       (with_reducible refine hcon.mono ?_)
       clear hcon
       rintro e W7 ⟨rfl,hb⟩
       replace m1:=ax m1 hb
       replace mB:=ay mB hb
       clear hb
       have aD5:w.heap.size≤W7.heap.size:=mB.size
       cases h_:mM s.most 0 5000 with
       |false =>
        have HZ:Hid (sH s = 2):=Lib.hid (by rw [HE.out,HB.out,H0.out,H1.out,H2.out,H3.out,H4.out,H5.out,h_];simp)
        clear h_ HE HB
        go_wp2
        go_ret
        exact ⟨by rw [HZ.out];rfl,mB⟩
       |true =>
        have b6:=jB.1 h_
        have H6:=Lib.hid h_
        clear h_
        have p1:=iV (show 0≤s.nx by omega) b0.2 (show 0≤s.ny by omega) b1.2
        have p2:=iV (show 0≤s.slots by omega) b4.2 (show 0≤s.layers by omega) b5.2
        have p3:=iV p2.1 p2.2 p1.1 p1.2
        have e1:wrap64 (s.nx*s.ny) = s.nx*s.ny:=by unfold wrap64;omega
        have HN:=Lib.hid e1
        try rw [e1]
        clear e1
        by_cases q7:(s.shores.length:Int) = s.nx*s.ny
        case neg =>
         have h_:decide ((s.shores.length:Int) = s.nx*s.ny) = false:=decide_eq_false q7
         have e_:((s.shores.length:Int) == s.nx*s.ny) = false:=beq_eq_false_iff_ne.2 q7
         have e2_:((s.shores.length:Int) != s.nx*s.ny) = true:=by rw [bne,e_];rfl
         clear q7
         have Eg:=(aa m1 0).trans rfl
         have Eh:=(aa m1 1).trans rfl
         have Ei:=(aa m1 2).trans rfl
         have Ej:=(aa m1 3).trans rfl
         have El:=(aa m1 4).trans rfl
         have Em:=(aa m1 5).trans rfl
         have En:=(aa m1 6).trans rfl
         have Eo:=(aa m1 7).trans rfl
         have Ep:=(aa m1 8).trans rfl
         have HZ:Hid (sH s = 2):=Lib.hid (by rw [HE.out,HB.out,H0.out,H1.out,H2.out,H3.out,H4.out,H5.out,H6.out,h_];simp)
         clear h_ HE HB
         go_wp2
         go_ret
         exact ⟨by rw [HZ.out];rfl,mB⟩
        case pos =>
         have h_:decide ((s.shores.length:Int) = s.nx*s.ny) = true:=decide_eq_true q7
         have H7:=Lib.hid h_
         have f7:((s.shores.length:Int) == s.nx*s.ny) = true:=beq_iff_eq.2 q7
         have g7:((s.shores.length:Int) != s.nx*s.ny) = false:=by rw [bne,f7];rfl
         clear h_ q7
         by_cases q8:(s.currents.length:Int) = s.slots*s.layers*(s.nx*s.ny)
         case neg =>
          have h_:decide ((s.currents.length:Int) = s.slots*s.layers*(s.nx*s.ny)) = false:=decide_eq_false q8
          have e_:((s.currents.length:Int) == s.slots*s.layers*(s.nx*s.ny)) = false:=beq_eq_false_iff_ne.2 q8
          have e2_:((s.currents.length:Int) != s.slots*s.layers*(s.nx*s.ny)) = true:=by rw [bne,e_];rfl
          clear q8
          have Eg:=(aa m1 0).trans rfl
          have Eh:=(aa m1 1).trans rfl
          have Ei:=(aa m1 2).trans rfl
          have Ej:=(aa m1 3).trans rfl
          have El:=(aa m1 4).trans rfl
          have Em:=(aa m1 5).trans rfl
          have En:=(aa m1 6).trans rfl
          have Eo:=(aa m1 7).trans rfl
          have Ep:=(aa m1 8).trans rfl
          have HZ:Hid (sH s = 2):=Lib.hid (by rw [HE.out,HB.out,H0.out,H1.out,H2.out,H3.out,H4.out,H5.out,H6.out,H7.out,h_];simp)
          clear h_ HE HB
          go_wp2
          go_ret
          exact ⟨by rw [HZ.out];rfl,mB⟩
         case pos =>
          have h_:decide ((s.currents.length:Int) = s.slots*s.layers*(s.nx*s.ny)) = true:=decide_eq_true q8
          have H8:=Lib.hid h_
          have f8:((s.currents.length:Int) == s.slots*s.layers*(s.nx*s.ny)) = true:=beq_iff_eq.2 q8
          have g8:((s.currents.length:Int) != s.slots*s.layers*(s.nx*s.ny)) = false:=by rw [bne,f8];rfl
          clear h_ q8
          have Eg:=(aa m1 0).trans rfl
          have Eh:=(aa m1 1).trans rfl
          have Ei:=(aa m1 2).trans rfl
          have Ej:=(aa m1 3).trans rfl
          have El:=(aa m1 4).trans rfl
          have Em:=(aa m1 5).trans rfl
          have En:=(aa m1 6).trans rfl
          have Eo:=(aa m1 7).trans rfl
          have Ep:=(aa m1 8).trans rfl
          go_wp2_with fail
          clear Eg
          clear Eh
          clear Ei
          clear Ej
          clear El
          clear Em
          clear En
          clear Eo
          clear Ep
          have hcon:=TG 76 #[.pointer (some ⟨g1,0,none⟩)] (Jl s.most) A8 c8 s.currents W7 (Kd.dF R4 mB) h8 (enters_of Try.func76 (by kernel_rfl) rfl) (fun x W hW=>afj g1 s A7 A8 c7 c8 x W b6.1 b6.2 (ax m1 hW))
          (with_reducible refine hcon.mono ?_)
          clear hcon
          rintro e W8 ⟨rfl,hb⟩
          replace m1:=ax m1 hb
          replace mB:=ay mB hb
          clear hb
          have aD6:w.heap.size≤W8.heap.size:=mB.size
          cases h_:s.currents.any (Jl s.most) with
          |true =>
           have HZ:Hid (sH s = 2):=Lib.hid (by rw [HE.out,HB.out,H0.out,H1.out,H2.out,H3.out,H4.out,H5.out,H6.out,H7.out,H8.out,h_];simp)
           clear h_ HE HB
           go_wp2
           go_ret
           exact ⟨by rw [HZ.out];rfl,mB⟩
          |false =>
           have HZ:Hid (sH s = 0):=Lib.hid (by rw [HE.out,HB.out,H0.out,H1.out,H2.out,H3.out,H4.out,H5.out,H6.out,H7.out,H8.out,h_];simp)
           clear h_ HE HB
           go_wp2
           go_ret
           exact ⟨by rw [HZ.out];rfl,mB⟩
end Go.Proofs.Ytmhaiihjfgfaoaa.Gl
end
section
namespace Go.Proofs.Ytmhaiihjfgfaoaa.Gl
open Go.RowKit Go.Shelf Go.Proofs.YtmhaiihjfgfaoaaW.PrintWords Go.Proofs.YtmhaiihjfgfaoaaW.PrintLast Go.Proofs.YtmhaiihjfgfaoaaW.PrintMore Go.Proofs.Ytmhaiihjfgfaoaa.Pr Go.Proofs.YtmhaiihjfgfaoaaW.Round
set_option linter.unusedVariables false
set_option linter.unusedSimpArgs false
attribute [local go_sem] fo fq gu gz fu
def XH (x:Int):Int:=x / 1000000
def Y9 (x:Int):Int:=-((-x) / 1000000)
def pG (dive:Int) (a:mZ) (speed:Int) (u:mZ):mZ:=⟨a.f0+XH ((speed+1000*u.f0)*dive),a.f1+Y9 ((speed+1000*u.f1)*dive)⟩
theorem KP {a b m n:Int} (h0:-m≤a) (h1:a≤m) (h2:0≤b) (h3:b≤n) (hm:0≤m):-(m*n)≤a*b∧a*b≤m*n:=by
 have k1:=Int.mul_le_mul_of_nonneg_right h1 h2
 have k2:=Int.mul_le_mul_of_nonneg_left h3 hm
 have k3:=Int.mul_le_mul_of_nonneg_right h0 h2
 rw [Int.neg_mul] at k3
 omega
theorem tdm (X:Int):X = 1000000*Int.tdiv X 1000000+Int.tmod X 1000000∧(0≤X→0≤Int.tmod X 1000000∧Int.tmod X 1000000 < 1000000)∧(X < 0→-1000000 < Int.tmod X 1000000∧Int.tmod X 1000000≤0):=by
 refine ⟨(Int.mul_tdiv_add_tmod X 1000000).symm,fun h=>?_,fun h=>?_⟩
 ·rw [Int.tmod_eq_emod_of_nonneg h]
  omega
 ·have e:X = -(-X):=by omega
  rw [e,Int.neg_tmod,Int.tmod_eq_emod_of_nonneg (show 0≤-X by omega)]
  omega
theorem aas {a b c d:Int} (h:a = c) (h2:b = d):Ending.returned (.agg #[.int .i64 a,.int .i64 b]) = Ending.returned (.agg #[.int .i64 c,.int .i64 d]):=by rw [h,h2]
set_option maxRecDepth 100000 in
set_option maxHeartbeats 4000000 in
theorem Nt (b:Nat) (s:oH) (v:wW) (a:mZ) (speed:Int) (u:mZ) (w:World) (hT:ma w b s v) (hV:MG v) (ha0:-1099511627776≤a.f0∧a.f0≤1099511627776) (ha1:-1099511627776≤a.f1∧a.f1≤1099511627776) (hs0:-5000000≤speed∧speed≤5000000) (hu0:-5000≤u.f0∧u.f0≤5000) (hu1:-5000≤u.f1∧u.f1≤5000):
 Calls Try.prog 131 #[.pointer (some ⟨b,0,none⟩),.agg #[.int .i64 a.f0,.int .i64 a.f1],.int .i64 speed,.agg #[.int .i64 u.f0,.int .i64 u.f1]] w (vP (.agg #[.int .i64 (pG v.dive a speed u).f0,.int .i64 (pG v.dive a speed u).f1]) w):=by
 have sU:=Try.underlying27
 obtain ⟨A7,c7,A8,c8,hB,_⟩:=hT
 have hd:=hV.dive
 have m0:=KP (a:=speed+1000*u.f0) (b:=v.dive) (m:=10000000) (n:=131072) (by omega) (by omega) (by omega) (by omega) (by omega)
 have m1:=KP (a:=speed+1000*u.f1) (b:=v.dive) (m:=10000000) (n:=131072) (by omega) (by omega) (by omega) (by omega) (by omega)
 clear hV
 have HR:Hid (pG v.dive a speed u = ⟨a.f0+XH ((speed+1000*u.f0)*v.dive),a.f1+Y9 ((speed+1000*u.f1)*v.dive)⟩):=Lib.hid rfl
 go_enter Try.func131,Try.ntmps131
 go_wp2_with fail
 have mT:=hB
 clear hB
 have Bn:=aU mT
 have m5:iT (((w.alloc (.cells #[.int .i64 a.f0,.int .i64 a.f1] 27)).alloc (.cells #[.int .i64 u.f0,.int .i64 u.f1] 27)).alloc (.cells #[.int .i64 0,.int .i64 0] 27)) (w.heap.size) #[.int .i64 a.f0,.int .i64 a.f1] 27:=(af (af (by have h_:=fK w (.cells #[.int .i64 a.f0,.int .i64 a.f1] 27);first|exact h_|(simp only [World.size_alloc] at h_;exact h_)) _) _)
 have m7:iT (((w.alloc (.cells #[.int .i64 a.f0,.int .i64 a.f1] 27)).alloc (.cells #[.int .i64 u.f0,.int .i64 u.f1] 27)).alloc (.cells #[.int .i64 0,.int .i64 0] 27)) (w.heap.size+1) #[.int .i64 u.f0,.int .i64 u.f1] 27:=(af (by have h_:=fK (w.alloc (.cells #[.int .i64 a.f0,.int .i64 a.f1] 27)) (.cells #[.int .i64 u.f0,.int .i64 u.f1] 27);first|exact h_|(simp only [World.size_alloc] at h_;exact h_)) _)
 have m8:iT (((w.alloc (.cells #[.int .i64 a.f0,.int .i64 a.f1] 27)).alloc (.cells #[.int .i64 u.f0,.int .i64 u.f1] 27)).alloc (.cells #[.int .i64 0,.int .i64 0] 27)) (w.heap.size+1+1) #[.int .i64 0,.int .i64 0] 27:=(by have h_:=fK ((w.alloc (.cells #[.int .i64 a.f0,.int .i64 a.f1] 27)).alloc (.cells #[.int .i64 u.f0,.int .i64 u.f1] 27)) (.cells #[.int .i64 0,.int .i64 0] 27);first|exact h_|(simp only [World.size_alloc] at h_;exact h_))
 replace mT:iT (((w.alloc (.cells #[.int .i64 a.f0,.int .i64 a.f1] 27)).alloc (.cells #[.int .i64 u.f0,.int .i64 u.f1] 27)).alloc (.cells #[.int .i64 0,.int .i64 0] 27)) b #[.int .i64 s.nx,.int .i64 s.ny,.int .i64 s.cell,.int .i64 s.slot,.int .i64 s.slots,.int .i64 s.layers,.int .i64 s.most,.slice A7 s.shores.length c7,.slice A8 s.currents.length c8,.int .i64 v.speed,.int .i64 v.dive,.int .i64 v.use.f0,.int .i64 v.use.f1,.int .i64 v.drift.f0,.int .i64 v.drift.f1,.int .i64 v.reserve] 110:=(af (af (af mT _) _) _)
 have mB:Below w.heap.size w (((w.alloc (.cells #[.int .i64 a.f0,.int .i64 a.f1] 27)).alloc (.cells #[.int .i64 u.f0,.int .i64 u.f1] 27)).alloc (.cells #[.int .i64 0,.int .i64 0] 27)):=(au (au (au (Below.refl w.heap.size w) _) _) _)
 have qi:w.heap.size≤w.heap.size:=Nat.le_refl _
 generalize zx:(((w.alloc (.cells #[.int .i64 a.f0,.int .i64 a.f1] 27)).alloc (.cells #[.int .i64 u.f0,.int .i64 u.f1] 27)).alloc (.cells #[.int .i64 0,.int .i64 0] 27)) = W1 at mT m5 m7 m8 mB ⊢
 clear zx
 generalize hg5:w.heap.size = g5 at m5 m7 m8 ⊢
 have Qt:b≠g5:=by omega
 have aat:g5≠b:=Qt.symm
 have hG5:w.heap.size≤g5:=by omega
 generalize hg7:g5+1 = g7 at m7 m8 ⊢
 have TH:b≠g7:=by omega
 have LH:g5≠g7:=by omega
 have ahW:g7≠b:=TH.symm
 have aau:g7≠g5:=LH.symm
 have hG7:w.heap.size≤g7:=by omega
 generalize hg8:g7+1 = g8 at m8 ⊢
 have ahX:b≠g8:=by omega
 have TI:g5≠g8:=by omega
 have TJ:g7≠g8:=by omega
 have aBt:g8≠b:=ahX.symm
 have ahY:g8≠g5:=TI.symm
 have ahZ:g8≠g7:=TJ.symm
 have TK:w.heap.size≤g8:=by omega
 clear qi Bn
 try clear hg8
 try clear hg7
 try clear hg5
 have DJ:w.heap.size≤W1.heap.size:=mB.size
 replace mT:=ai mT
 replace m5:=ai m5
 replace m7:=ai m7
 replace m8:=ai m8
 replace mB:=av mB
 have ao8:wrap64 (1000*u.f0) = 1000*u.f0:=by unfold wrap64;omega
 have ao9:wrap64 (speed+1000*u.f0) = speed+1000*u.f0:=by unfold wrap64;omega
 have apa:wrap64 ((speed+1000*u.f0)*v.dive) = (speed+1000*u.f0)*v.dive:=by unfold wrap64;omega
 have apb:wrap64 (1000*u.f1) = 1000*u.f1:=by unfold wrap64;omega
 have apc:wrap64 (speed+1000*u.f1) = speed+1000*u.f1:=by unfold wrap64;omega
 have apd:wrap64 ((speed+1000*u.f1)*v.dive) = (speed+1000*u.f1)*v.dive:=by unfold wrap64;omega
 refine qg (n:=25) (S:=fun w'=>w'.cell? ⟨g7,0,none⟩ = some (.int .i64 u.f0)∧w'.cell? ⟨g7,1,none⟩ = some (.int .i64 u.f1)∧w'.cell? ⟨g5,0,none⟩ = some (.int .i64 a.f0)∧w'.cell? ⟨g5,1,none⟩ = some (.int .i64 a.f1)∧w'.cell? ⟨b,10,none⟩ = some (.int .i64 v.dive)) (ds:=[24]) #[false,false,false,false,false,false,false,false,false,false,false,false,false,false,false,false,false,false,false,false,false,false,false,false,false] (by kernel_rfl) rfl rfl ⟨((aa m7 0).trans rfl),((aa m7 1).trans rfl),((aa m5 0).trans rfl),((aa m5 1).trans rfl),((aa mT 10).trans rfl)⟩ (fun hHeld=>?_)
 generalize hWd:World.drew _ = Wx at mB mT m5 m7 m8 hHeld ⊢
 clear hWd
 refine bU (i:=0) (N:=some 12) (v:=?_) (a':=?_) #[true,false,false,false,false,false,false,false,false,false,false,false,false,false,false,false,false,false,false,false,false,false,false,false,false] rfl rfl (by kernel_rfl) (fun _ _ _ h=>h) (Or.inl ⟨by rfl,?_⟩) ?_ ?_
 rotate_left
 ·intro w'
  go_simp
  with_reducible rfl
 rotate_left
 ·simp only [Act.put,List.setIfInBounds_toArray,List.set_cons_zero,List.set_cons_succ,aZ,bf]
  rfl
 refine bU (i:=1) (N:=some 13) (v:=?_) (a':=?_) #[true,true,false,false,false,false,false,false,false,false,false,false,false,false,false,false,false,false,false,false,false,false,false,false,false] rfl rfl (by kernel_rfl) (fun _ _ _ h=>h) (Or.inl ⟨by rfl,?_⟩) ?_ ?_
 rotate_left
 ·intro w'
  go_simp
  with_reducible rfl
 rotate_left
 ·simp only [Act.put,List.setIfInBounds_toArray,List.set_cons_zero,List.set_cons_succ,aZ,bf]
  rfl
 refine bU (i:=5) (N:=some 17) (v:=?_) (a':=?_) #[true,true,false,false,false,true,false,false,false,false,false,false,false,false,false,false,false,false,false,false,false,false,false,false,false] rfl rfl (by kernel_rfl) (fun _ _ _ h=>h) (Or.inl ⟨by rfl,?_⟩) ?_ ?_
 rotate_left
 ·intro w'
  go_simp
  with_reducible rfl
 rotate_left
 ·simp only [Act.put,List.setIfInBounds_toArray,List.set_cons_zero,List.set_cons_succ,aZ,bf]
  rfl
 refine bU (i:=6) (N:=some 18) (v:=?_) (a':=?_) #[true,true,false,false,false,true,true,false,false,false,false,false,false,false,false,false,false,false,false,false,false,false,false,false,false] rfl rfl (by kernel_rfl) (fun _ _ _ h=>h) (Or.inl ⟨by rfl,?_⟩) ?_ ?_
 rotate_left
 ·intro w'
  go_simp
  with_reducible rfl
 rotate_left
 ·simp only [Act.put,List.setIfInBounds_toArray,List.set_cons_zero,List.set_cons_succ,aZ,bf]
  rfl
 refine bU (i:=7) (N:=some 19) (v:=?_) (a':=?_) #[true,true,false,false,false,true,true,true,false,false,false,false,false,false,false,false,false,false,false,false,false,false,false,false,false] rfl rfl (by kernel_rfl) (fun _ _ _ h=>h) (Or.inl ⟨by rfl,?_⟩) ?_ ?_
 rotate_left
 ·intro w'
  go_simp
  with_reducible rfl
 rotate_left
 ·simp only [Act.put,List.setIfInBounds_toArray,List.set_cons_zero,List.set_cons_succ,aZ,bf]
  rfl
 refine bU (i:=8) (N:=some 20) (v:=?_) (a':=?_) #[true,true,false,false,false,true,true,true,true,false,false,false,false,false,false,false,false,false,false,false,false,false,false,false,false] rfl rfl (by kernel_rfl) (fun _ _ _ h=>h) (Or.inl ⟨by rfl,?_⟩) ?_ ?_
 rotate_left
 ·intro w'
  go_simp
  with_reducible rfl
 rotate_left
 ·simp only [Act.put,List.setIfInBounds_toArray,List.set_cons_zero,List.set_cons_succ,aZ,bf]
  rfl
 refine bU (i:=11) (N:=some 23) (v:=?_) (a':=?_) #[true,true,false,false,false,true,true,true,true,false,false,true,false,false,false,false,false,false,false,false,false,false,false,false,false] rfl rfl (by kernel_rfl) (fun _ _ _ h=>h) (Or.inl ⟨by rfl,?_⟩) ?_ ?_
 rotate_left
 ·intro w'
  go_simp
  with_reducible rfl
 rotate_left
 ·simp only [Act.put,List.setIfInBounds_toArray,List.set_cons_zero,List.set_cons_succ,aZ,bf]
  rfl
 refine bU (i:=12) (N:=some 24) (v:=?_) (a':=?_) #[true,true,false,false,false,true,true,true,true,false,false,true,true,false,false,false,false,false,false,false,false,false,false,false,false] rfl rfl (by kernel_rfl) (fun _ _ _ h=>h) (Or.inl ⟨by rfl,?_⟩) ?_ ?_
 rotate_left
 ·intro w'
  go_simp
  with_reducible rfl
 rotate_left
 ·simp only [Act.put,List.setIfInBounds_toArray,List.set_cons_zero,List.set_cons_succ,aZ,bf]
  rfl
 refine bU (i:=16) (N:=some 28) (v:=?_) (a':=?_) #[true,true,false,false,false,true,true,true,true,false,false,true,true,false,false,false,true,false,false,false,false,false,false,false,false] rfl rfl (by kernel_rfl) (fun _ _ _ h=>h) (Or.inl ⟨by rfl,?_⟩) ?_ ?_
 rotate_left
 ·intro w'
  go_simp
  with_reducible rfl
 rotate_left
 ·simp only [Act.put,List.setIfInBounds_toArray,List.set_cons_zero,List.set_cons_succ,aZ,bf]
  rfl
 refine bU (i:=17) (N:=some 29) (v:=?_) (a':=?_) #[true,true,false,false,false,true,true,true,true,false,false,true,true,false,false,false,true,true,false,false,false,false,false,false,false] rfl rfl (by kernel_rfl) (fun _ _ _ h=>h) (Or.inl ⟨by rfl,?_⟩) ?_ ?_
 rotate_left
 ·intro w'
  go_simp
  with_reducible rfl
 rotate_left
 ·simp only [Act.put,List.setIfInBounds_toArray,List.set_cons_zero,List.set_cons_succ,aZ,bf]
  rfl
 refine bU (i:=18) (N:=some 30) (v:=?_) (a':=?_) #[true,true,false,false,false,true,true,true,true,false,false,true,true,false,false,false,true,true,true,false,false,false,false,false,false] rfl rfl (by kernel_rfl) (fun _ _ _ h=>h) (Or.inl ⟨by rfl,?_⟩) ?_ ?_
 rotate_left
 ·intro w'
  go_simp
  with_reducible rfl
 rotate_left
 ·simp only [Act.put,List.setIfInBounds_toArray,List.set_cons_zero,List.set_cons_succ,aZ,bf]
  rfl
 refine bU (i:=19) (N:=some 31) (v:=?_) (a':=?_) #[true,true,false,false,false,true,true,true,true,false,false,true,true,false,false,false,true,true,true,true,false,false,false,false,false] rfl rfl (by kernel_rfl) (fun _ _ _ h=>h) (Or.inl ⟨by rfl,?_⟩) ?_ ?_
 rotate_left
 ·intro w'
  go_simp
  with_reducible rfl
 rotate_left
 ·simp only [Act.put,List.setIfInBounds_toArray,List.set_cons_zero,List.set_cons_succ,aZ,bf]
  rfl
 refine gB (i:=2) (N:=some 14) (v:=?_) (a':=?_) #[true,true,true,false,false,true,true,true,true,false,false,true,true,false,false,false,true,true,true,true,false,false,false,false,false] rfl rfl (by kernel_rfl) (fun _ _ _ h=>h) (Or.inl ⟨by rfl,?_⟩) hHeld ?_ ?_
 rotate_left
 ·rintro w' ⟨s0,s1,s2,s3,s4⟩
  go_simp
  with_reducible rfl
 rotate_left
 ·simp only [Act.put,List.setIfInBounds_toArray,List.set_cons_zero,List.set_cons_succ,aZ,bf]
  rfl
 refine bU (i:=3) (N:=some 15) (v:=?_) (a':=?_) #[true,true,true,true,false,true,true,true,true,false,false,true,true,false,false,false,true,true,true,true,false,false,false,false,false] rfl rfl (by kernel_rfl) (fun _ _ _ h=>h) (Or.inl ⟨by rfl,?_⟩) ?_ ?_
 rotate_left
 ·intro w'
  go_simp
  with_reducible rfl
 rotate_left
 ·simp only [Act.put,List.setIfInBounds_toArray,List.set_cons_zero,List.set_cons_succ,aZ,bf]
  rfl
 refine bU (i:=4) (N:=some 16) (v:=?_) (a':=?_) #[true,true,true,true,true,true,true,true,true,false,false,true,true,false,false,false,true,true,true,true,false,false,false,false,false] rfl rfl (by kernel_rfl) (fun _ _ _ h=>h) (Or.inl ⟨by rfl,?_⟩) ?_ ?_
 rotate_left
 ·intro w'
  go_simp
  with_reducible rfl
 rotate_left
 ·simp only [Act.put,List.setIfInBounds_toArray,List.set_cons_zero,List.set_cons_succ,aZ,bf]
  rfl
 refine gB (i:=9) (N:=some 21) (v:=?_) (a':=?_) #[true,true,true,true,true,true,true,true,true,true,false,true,true,false,false,false,true,true,true,true,false,false,false,false,false] rfl rfl (by kernel_rfl) (fun _ _ _ h=>h) (Or.inl ⟨by rfl,?_⟩) hHeld ?_ ?_
 rotate_left
 ·rintro w' ⟨s0,s1,s2,s3,s4⟩
  go_simp
  with_reducible rfl
 rotate_left
 ·simp only [Act.put,List.setIfInBounds_toArray,List.set_cons_zero,List.set_cons_succ,aZ,bf]
  rfl
 refine bU (i:=10) (N:=some 22) (v:=?_) (a':=?_) #[true,true,true,true,true,true,true,true,true,true,true,true,true,false,false,false,true,true,true,true,false,false,false,false,false] rfl rfl (by kernel_rfl) (fun _ _ _ h=>h) (Or.inl ⟨by rfl,?_⟩) ?_ ?_
 rotate_left
 ·intro w'
  go_simp
  with_reducible rfl
 rotate_left
 ·simp only [Act.put,List.setIfInBounds_toArray,List.set_cons_zero,List.set_cons_succ,aZ,bf]
  rfl
 refine gB (i:=13) (N:=some 25) (v:=?_) (a':=?_) #[true,true,true,true,true,true,true,true,true,true,true,true,true,true,false,false,true,true,true,true,false,false,false,false,false] rfl rfl (by kernel_rfl) (fun _ _ _ h=>h) (Or.inl ⟨by rfl,?_⟩) hHeld ?_ ?_
 rotate_left
 ·rintro w' ⟨s0,s1,s2,s3,s4⟩
  go_simp
  with_reducible rfl
 rotate_left
 ·simp only [Act.put,List.setIfInBounds_toArray,List.set_cons_zero,List.set_cons_succ,aZ,bf]
  rfl
 refine bU (i:=14) (N:=some 26) (v:=?_) (a':=?_) #[true,true,true,true,true,true,true,true,true,true,true,true,true,true,true,false,true,true,true,true,false,false,false,false,false] rfl rfl (by kernel_rfl) (fun _ _ _ h=>h) (Or.inl ⟨by rfl,?_⟩) ?_ ?_
 rotate_left
 ·intro w'
  go_simp
  with_reducible rfl
 rotate_left
 ·simp only [Act.put,List.setIfInBounds_toArray,List.set_cons_zero,List.set_cons_succ,aZ,bf]
  rfl
 refine bU (i:=15) (N:=some 27) (v:=?_) (a':=?_) #[true,true,true,true,true,true,true,true,true,true,true,true,true,true,true,true,true,true,true,true,false,false,false,false,false] rfl rfl (by kernel_rfl) (fun _ _ _ h=>h) (Or.inl ⟨by rfl,?_⟩) ?_ ?_
 rotate_left
 ·intro w'
  go_simp
  with_reducible rfl
 rotate_left
 ·simp only [Act.put,List.setIfInBounds_toArray,List.set_cons_zero,List.set_cons_succ,aZ,bf]
  rfl
 refine gB (i:=20) (N:=some 32) (v:=?_) (a':=?_) #[true,true,true,true,true,true,true,true,true,true,true,true,true,true,true,true,true,true,true,true,true,false,false,false,false] rfl rfl (by kernel_rfl) (fun _ _ _ h=>h) (Or.inl ⟨by rfl,?_⟩) hHeld ?_ ?_
 rotate_left
 ·rintro w' ⟨s0,s1,s2,s3,s4⟩
  go_simp
  with_reducible rfl
 rotate_left
 ·simp only [Act.put,List.setIfInBounds_toArray,List.set_cons_zero,List.set_cons_succ,aZ,bf]
  rfl
 refine bU (i:=21) (N:=some 33) (v:=?_) (a':=?_) #[true,true,true,true,true,true,true,true,true,true,true,true,true,true,true,true,true,true,true,true,true,true,false,false,false] rfl rfl (by kernel_rfl) (fun _ _ _ h=>h) (Or.inl ⟨by rfl,?_⟩) ?_ ?_
 rotate_left
 ·intro w'
  go_simp
  with_reducible rfl
 rotate_left
 ·simp only [Act.put,List.setIfInBounds_toArray,List.set_cons_zero,List.set_cons_succ,aZ,bf]
  rfl
 refine bU (i:=22) (N:=some 34) (v:=?_) (a':=?_) #[true,true,true,true,true,true,true,true,true,true,true,true,true,true,true,true,true,true,true,true,true,true,true,false,false] rfl rfl (by kernel_rfl) (fun _ _ _ h=>h) (Or.inl ⟨by rfl,?_⟩) ?_ ?_
 rotate_left
 ·intro w'
  go_simp
  with_reducible rfl
 rotate_left
 ·simp only [Act.put,List.setIfInBounds_toArray,List.set_cons_zero,List.set_cons_succ,aZ,bf]
  rfl
 refine o7 (i:=23) (N:=some 9) #[true,true,true,true,true,true,true,true,true,true,true,true,true,true,true,true,true,true,true,true,true,true,true,true,false] rfl rfl (by kernel_rfl) (by decide) (fun K hK=>?_)
 refine Iw (w1:=?_) (v:=?_) (by rfl) rfl ?_ ?_
 rotate_left 2
 ·go_simp
  constructor
  ·rfl
  ·rfl
 refine hK.out _ _ ⟨((aa (af m7 (.cells #[.int .i64 0,.int .i64 0] 27)) 0).trans rfl),((aa (af m7 (.cells #[.int .i64 0,.int .i64 0] 27)) 1).trans rfl),((aa (af m5 (.cells #[.int .i64 0,.int .i64 0] 27)) 0).trans rfl),((aa (af m5 (.cells #[.int .i64 0,.int .i64 0] 27)) 1).trans rfl),((aa (af mT (.cells #[.int .i64 0,.int .i64 0] 27)) 10).trans rfl)⟩ (fun hHeld=>?_)
 clear hK K
 refine iP (a':=?_) ?_ ?_
 rotate_left
 ·show Act.put _ (some 9) _ = _
  simp only [Act.put,List.setIfInBounds_toArray,List.set_cons_zero,List.set_cons_succ,aZ,bf]
  rfl
 refine M5 (i:=24) (N:=none) #[true,true,true,true,true,true,true,true,true,true,true,true,true,true,true,true,true,true,true,true,true,true,true,true,true] rfl rfl (by kernel_rfl) (by decide) (fun K hK=>?_)
 have XI:=fK Wx (.cells #[.int .i64 0,.int .i64 0] 27)
 have TL:=ae XI 0
 have TM:=ae XI 1
 have TN:=(aa XI 0).trans rfl
 have TP:=(aa XI 1).trans rfl
 refine Ld (w1:=?_) (by rfl) rfl ?_ ?_
 rotate_left
 ·go_simp
  rfl
 clear XI TL TM TN TP
 refine hK.out _ _ ?_
 clear hK K
 refine tT (by kernel_rfl) ?_
 clear ao8 ao9 apa
 clear apb apc apd
 have Rq:w.heap.size≤Wx.heap.size:=mB.size
 have Bn:=aU mT
 have LJ:=aU m5
 have aav:=aU m7
 have ah0:=aU m8
 have m9:iT (Wx.alloc (.cells #[.int .i64 ((speed+1000*u.f0)*v.dive),.int .i64 ((speed+1000*u.f1)*v.dive)] 27)) (Wx.heap.size) #[.int .i64 ((speed+1000*u.f0)*v.dive),.int .i64 ((speed+1000*u.f1)*v.dive)] 27:=(by have h_:=fK Wx (.cells #[.int .i64 ((speed+1000*u.f0)*v.dive),.int .i64 ((speed+1000*u.f1)*v.dive)] 27);first|exact h_|(simp only [World.size_alloc] at h_;exact h_))
 replace mT:iT (Wx.alloc (.cells #[.int .i64 ((speed+1000*u.f0)*v.dive),.int .i64 ((speed+1000*u.f1)*v.dive)] 27)) b #[.int .i64 s.nx,.int .i64 s.ny,.int .i64 s.cell,.int .i64 s.slot,.int .i64 s.slots,.int .i64 s.layers,.int .i64 s.most,.slice A7 s.shores.length c7,.slice A8 s.currents.length c8,.int .i64 v.speed,.int .i64 v.dive,.int .i64 v.use.f0,.int .i64 v.use.f1,.int .i64 v.drift.f0,.int .i64 v.drift.f1,.int .i64 v.reserve] 110:=(af mT _)
 replace m5:iT (Wx.alloc (.cells #[.int .i64 ((speed+1000*u.f0)*v.dive),.int .i64 ((speed+1000*u.f1)*v.dive)] 27)) g5 #[.int .i64 a.f0,.int .i64 a.f1] 27:=(af m5 _)
 replace m7:iT (Wx.alloc (.cells #[.int .i64 ((speed+1000*u.f0)*v.dive),.int .i64 ((speed+1000*u.f1)*v.dive)] 27)) g7 #[.int .i64 u.f0,.int .i64 u.f1] 27:=(af m7 _)
 replace m8:iT (Wx.alloc (.cells #[.int .i64 ((speed+1000*u.f0)*v.dive),.int .i64 ((speed+1000*u.f1)*v.dive)] 27)) g8 #[.int .i64 0,.int .i64 0] 27:=(af m8 _)
 replace mB:Below w.heap.size w (Wx.alloc (.cells #[.int .i64 ((speed+1000*u.f0)*v.dive),.int .i64 ((speed+1000*u.f1)*v.dive)] 27)):=(au mB _)
 have qi:w.heap.size≤Wx.heap.size:=Rq
 generalize zx:(Wx.alloc (.cells #[.int .i64 ((speed+1000*u.f0)*v.dive),.int .i64 ((speed+1000*u.f1)*v.dive)] 27)) = W2 at mT m5 m7 m8 m9 mB ⊢
 clear zx
 generalize hg9:Wx.heap.size = g9 at m9 ⊢
 have LK:b≠g9:=by omega
 have TQ:g5≠g9:=by omega
 have LM:g7≠g9:=by omega
 have ah2:g8≠g9:=by omega
 have aaw:g9≠b:=LK.symm
 have ah3:g9≠g5:=TQ.symm
 have aax:g9≠g7:=LM.symm
 have aBu:g9≠g8:=ah2.symm
 have hG9:w.heap.size≤g9:=by omega
 clear qi Bn LJ aav ah0
 try clear hg9
 have zy:w.heap.size≤W2.heap.size:=mB.size
 have t0:=tdm ((speed+1000*u.f0)*v.dive)
 have t1:=tdm ((speed+1000*u.f1)*v.dive)
 generalize (speed+1000*u.f0)*v.dive = X at*
 generalize (speed+1000*u.f1)*v.dive = Y at*
 generalize hq0:Int.tdiv X 1000000 = q0 at*
 generalize hr0:Int.tmod X 1000000 = r0 at*
 generalize hq1:Int.tdiv Y 1000000 = q1 at*
 generalize hr1:Int.tmod Y 1000000 = r1 at*
 have bq0:-10000000000000≤q0∧q0≤10000000000000:=by omega
 have bq1:-10000000000000≤q1∧q1≤10000000000000:=by omega
 have T0:=Lib.hid t0
 have T1:=Lib.hid t1
 clear t0 t1
 have GA:=(aa m5 0).trans rfl
 have II:=(aa m5 1).trans rfl
 have aay:=(aa m9 0).trans rfl
 have aaz:=(aa m9 1).trans rfl
 have ape:=(aa m8 0).trans rfl
 have apf:=(aa m8 1).trans rfl
 have apg:=ae m8 0
 have aph:=ae m8 1
 go_wp2_with fail
 go_quiet (fail)
 clear hq0 hq1
 go_wp2
 all_goals
  have t0:=T0.out
  have t1:=T1.out
  try simp only [bne_iff_ne,ne_eq,bne_eq_false_iff_eq] at*
  exact bodyPost_ret (results_cell_row rfl _ _ g8 27 #[_,_] (0,0) _ rfl (aW (aW (ag m8 _) 0 _ rfl) 1 _ rfl) Try.underlying27 rfl (by kernel_rfl)) rfl ⟨aas (by rw [HR.out];unfold XH;dsimp only;omega) (by rw [HR.out];unfold Y9;dsimp only;omega),(((ah mB) _).setCell TK _).setCell TK _⟩
end Go.Proofs.Ytmhaiihjfgfaoaa.Gl
end
section
namespace Go.Proofs.Ytmhaiihjfgfaoaa.Gl
open Go.RowKit Go.Shelf Go.Proofs.YtmhaiihjfgfaoaaW.PrintWords Go.Proofs.YtmhaiihjfgfaoaaW.PrintLast Go.Proofs.YtmhaiihjfgfaoaaW.PrintMore Go.Proofs.Ytmhaiihjfgfaoaa.Pr Go.Proofs.YtmhaiihjfgfaoaaW.Round
set_option linter.unusedVariables false
set_option linter.unusedSimpArgs false
attribute [local go_sem] fo fq gu gz fu
attribute [local go_sem] Oper.semAt_some
def YT (nx i0:Int) (n:Nat) (k:Int):List Int:=(List.range n).map fun j:Nat=>k*nx+(i0+(j:Int))
def allT (nx i0:Int) (n:Nat) (k0:Int) (m:Nat):List Int:=(List.range m).flatMap fun r:Nat=>YT nx i0 n (k0+(r:Int))
def yw (nx i0:Int) (n:Nat) (k0:Int) (q j:Nat):List Int:=allT nx i0 n k0 q++YT nx i0 j (k0+(q:Int))
theorem TR (nx i0:Int) (n:Nat) (k0:Int):yw nx i0 n k0 0 0 = []:=rfl
theorem Nu (nx i0:Int) (n:Nat) (k0:Int) (q:Nat):yw nx i0 n k0 q 0 = allT nx i0 n k0 q:=by unfold yw YT;simp
theorem Er (nx i0:Int) (n:Nat) (k0:Int) (q j:Nat):yw nx i0 n k0 q (j+1) = yw nx i0 n k0 q j++[(k0+(q:Int))*nx+(i0+(j:Int))]:=by
 unfold yw YT
 rw [List.range_succ,List.map_append,List.map_singleton,List.append_assoc]
theorem IJ (nx i0:Int) (n:Nat) (k0:Int) (q:Nat):allT nx i0 n k0 (q+1) = yw nx i0 n k0 q n:=by
 unfold yw allT
 rw [List.range_succ,List.flatMap_append,List.flatMap_singleton]
theorem Rs (nx i0:Int) (n:Nat) (k0:Int):∀ (d q:Nat),allT nx i0 n k0 q <+:allT nx i0 n k0 (q+d)
 |0,q=>List.prefix_refl _
 |d+1,q=>by
  refine (Rs nx i0 n k0 d q).trans ?_
  rw [show q+(d+1) = (q+d)+1 by omega,IJ]
  exact List.prefix_append _ _
theorem Nv {nx i0:Int} {n:Nat} {k0:Int} {m q j:Nat} (hq:q < m) (hj:j≤n):yw nx i0 n k0 q j <+:allT nx i0 n k0 m:=by
 have h1:yw nx i0 n k0 q j <+:yw nx i0 n k0 q n:=by
  unfold yw
  refine (List.prefix_append_right_inj _).2 ?_
  unfold YT
  refine List.IsPrefix.map _ ?_
  rw [show n = j+(n - j) by omega,List.range_add]
  exact List.prefix_append _ _
 rw [← IJ] at h1
 have h2:=Rs nx i0 n k0 (m - (q+1)) (q+1)
 rw [show q+1+(m - (q+1)) = m by omega] at h2
 exact h1.trans h2
abbrev zz (s:oH):={ c:Int // 0≤c∧c < s.nx*s.ny }
def qF (s:oH) (x:jI):List Int:=allT s.nx (qy s.cell x.f0 s.nx).1 ((qy s.cell x.f0 s.nx).2+1 - (qy s.cell x.f0 s.nx).1).toNat (qy s.cell x.f1 s.ny).1 ((qy s.cell x.f1 s.ny).2+1 - (qy s.cell x.f1 s.ny).1).toNat
def aaA (s:oH) (x:jI) (xs:List (zz s)):Prop:=xs.map Subtype.val = qF s x
def afk (s:oH) (x:jI) (xs:List (zz s)):Prop:=xs.map Subtype.val <+:qF s x
theorem XJ {c:Int} {a:mZ} {most:Int} (hc:1≤c) (h0:0≤a.f0) (h1:0≤a.f1) (hm:1≤most):(0≤(qy c a most).1∧(qy c a most).1≤most - 1)∧(0≤(qy c a most).2∧(qy c a most).2≤most - 1):=by
 have d0:=IG h0 hc
 have d1:=IG h1 hc
 unfold qy qE
 dsimp only
 split <;> omega
def Jd (s:oH) (x:jI):Prop:=(0≤x.f0.f0∧x.f0.f0≤1099511627776)∧(0≤x.f0.f1∧x.f0.f1≤1099511627776)∧(0≤x.f1.f0∧x.f1.f0≤1099511627776)∧(0≤x.f1.f1∧x.f1.f1≤1099511627776)
set_option maxHeartbeats 1000000 in
theorem Je (b:Nat) (x:jI) (w:World):Calls Try.prog 118 #[.pointer (some ⟨b,0,none⟩),.agg #[.int .i64 x.f0.f0,.int .i64 x.f0.f1,.int .i64 x.f1.f0,.int .i64 x.f1.f1]] w fun e w'=>e = .returned (.func (.func 135) #[] #[.pointer (some ⟨w.heap.size,0,none⟩),.pointer (some ⟨w.heap.size+1,0,none⟩)])∧w' = (w.alloc (.cells #[.pointer (some ⟨b,0,none⟩)] 104)).alloc (.cells #[.int .i64 x.f0.f0,.int .i64 x.f0.f1,.int .i64 x.f1.f0,.int .i64 x.f1.f1] 31):=by
 have vT:=Try.underlying31
 go_enter Try.func118,Try.ntmps118
 go_wp2
 go_ret
 exact ⟨rfl,rfl⟩
theorem row_in {nx ny k:Int} (hx:1≤nx) (h0:0≤k) (h1:k≤ny - 1):0≤k*nx∧k*nx≤nx*ny - nx:=by
 refine ⟨Int.mul_nonneg h0 (by omega),?_⟩
 have h:=Int.mul_le_mul_of_nonneg_right h1 (show 0≤nx by omega)
 rw [Int.sub_mul,Int.one_mul,Int.mul_comm ny nx] at h
 exact h
def Env (w0:World) (bp bx b:Nat) (x:jI) (W:World):Prop:=Below w0.heap.size w0 W∧iT W bp #[.pointer (some ⟨b,0,none⟩)] 104∧iT W bx #[.int .i64 x.f0.f0,.int .i64 x.f0.f1,.int .i64 x.f1.f0,.int .i64 x.f1.f1] 31
theorem Env.below {w0:World} {bp bx b:Nat} {x:jI} {W W1:World} (h:Env w0 bp bx b x W) (hb:Below W.heap.size W W1):Env w0 bp bx b x W1:=⟨ay h.1 hb,h.2.1.below hb,h.2.2.below hb⟩
set_option maxRecDepth 100000 in
set_option maxHeartbeats 4000000 in
theorem Jf (n:Nat) (hn:1≤n) (l bp bx:Nat) (w0:World) (b:Nat) (s:oH) (v:wW) (x:jI) (hT:ma w0 b s v) (hS:Ar s) (hx:Jd s x) (Kp:World→World→Prop) (hKp:∀ A B,Kp A B→Env w0 bp bx b x A→Env w0 bp bx b x B) (J Jx:List (zz s)→World→Prop)
 (hY:∀ pre c W,J pre W→pre.length < (qF s x).length→YieldAt Fence.wide (n - 1) Try.prog l #[.int .i64 c.1] W fun e W' =>
  (e = .returned (.bool true)∧J (pre++[c]) W'∧Kp W W')∨(e = .returned (.bool false)∧Jx (pre++[c]) W'))
 (hJa:∀ (f:List (zz s)) W W',J f W→Below W.heap.size W W'→J f W')
 (W:World) (hE:Env w0 bp bx b x W) (h0:J [] W):
 CallsIn Fence.wide n Try.prog 135 #[.func (.yield l) #[] #[],.pointer (some ⟨bp,0,none⟩),.pointer (some ⟨bx,0,none⟩)] W fun e W'=>(∃ v,e = .returned v)∧
  ((∃ xs,aaA s x xs∧J xs W')∨(∃ pre,afk s x pre∧Jx pre W')):=by
 have vT:=Try.underlying31
 have sU:=Try.underlying27
 obtain ⟨⟨x0,x1⟩,⟨x2,x3⟩,⟨x4,x5⟩,x6,x7⟩:=hx
 have hcl:=hS.cell
 have hnx:=hS.nx
 have hny:=hS.ny
 have gI:=XJ (c:=s.cell) (a:=x.f0) (most:=s.nx) (by omega) x0 x2 hnx.1
 have gK:=XJ (c:=s.cell) (a:=x.f1) (most:=s.ny) (by omega) x4 x6 hny.1
 have kN:=fun W (h:ma W b s v)=>Jb b s v x.f0 s.nx W h hS x0 x1 x2 x3 hnx.1 hnx.2
 have kM:=fun W (h:ma W b s v)=>Jb b s v x.f1 s.ny W h hS x4 x5 x6 x7 hny.1 hny.2
 have hAll:qF s x = allT s.nx (qy s.cell x.f0 s.nx).1 ((qy s.cell x.f0 s.nx).2+1 - (qy s.cell x.f0 s.nx).1).toNat (qy s.cell x.f1 s.ny).1 ((qy s.cell x.f1 s.ny).2+1 - (qy s.cell x.f1 s.ny).1).toNat:=rfl
 generalize qy s.cell x.f0 s.nx = I at*
 generalize qy s.cell x.f1 s.ny = K at*
 obtain ⟨i0,i1⟩:=I
 obtain ⟨k0,k1⟩:=K
 dsimp only at gI gK kN kM hAll
 obtain ⟨⟨i2,i3⟩,i4,i5⟩:=gI
 obtain ⟨⟨k2,k3⟩,k4,k5⟩:=gK
 have HAll:=Lib.hid hAll
 clear hAll hcl
 have hE0:=hE
 obtain ⟨hb0,mP,mX⟩:=hE0
 obtain ⟨A7,c7,A8,c8,mT,_⟩:=hT.below hb0
 clear hb0
 refine callsIn_of_wp Try.func135 rfl trivial ?_ rfl
 simp only [Try.ntmps135,List.size_toArray,List.length_cons,List.length_nil,Nat.reduceAdd,Nat.reduceSub,Array.replicate_succ,Array.replicate_zero,List.push_toArray,List.append_toArray,List.nil_append,List.cons_append]
 gi_wp2_with fail
 refine IE (wpIn_wide.2 ?_)
 replace mT:=ai mT
 replace mP:=ai mP
 replace mX:=ai mX
 replace h0:=hJa _ _ _ h0 (av (Below.refl _ _))
 replace hE:=hE.below (av (Below.refl _ _))
 refine qg (n:=14) (S:=fun w'=>w'.cell? ⟨bp,0,none⟩ = some (.pointer (some ⟨b,0,none⟩))∧w'.cell? ⟨bx,0,none⟩ = some (.int .i64 x.f0.f0)∧w'.cell? ⟨bx,1,none⟩ = some (.int .i64 x.f0.f1)∧w'.cell? ⟨b,0,none⟩ = some (.int .i64 s.nx)) (ds:=[]) #[false,false,false,false,false,false,false,false,false,false,false,false,false,false] (by kernel_rfl) rfl rfl ⟨((aa mP 0).trans rfl),((aa mX 0).trans rfl),((aa mX 1).trans rfl),((aa mT 0).trans rfl)⟩ (fun hHeld=>?_)
 generalize hWd:World.drew _ = Wx at*
 clear hWd
 refine bU (i:=1) (N:=some 12) (v:=?_) (a':=?_) #[false,true,false,false,false,false,false,false,false,false,false,false,false,false] rfl rfl (by kernel_rfl) (fun _ _ _ h=>h) (Or.inl ⟨by rfl,?_⟩) ?_ ?_
 rotate_left
 ·intro w'
  go_simp
  with_reducible rfl
 rotate_left
 ·simp only [Act.put,List.setIfInBounds_toArray,List.set_cons_zero,List.set_cons_succ,aZ,bf]
  rfl
 refine gB (i:=0) (N:=some 11) (v:=?_) (a':=?_) #[true,true,false,false,false,false,false,false,false,false,false,false,false,false] rfl rfl (by kernel_rfl) (fun _ _ _ h=>h) (Or.inl ⟨by rfl,?_⟩) hHeld ?_ ?_
 rotate_left
 ·rintro w' ⟨s0,s1,s2,s3⟩
  go_simp
  with_reducible rfl
 rotate_left
 ·simp only [Act.put,List.setIfInBounds_toArray,List.set_cons_zero,List.set_cons_succ,aZ,bf]
  rfl
 refine gB (i:=2) (N:=some 13) (v:=?_) (a':=?_) #[true,true,true,false,false,false,false,false,false,false,false,false,false,false] rfl rfl (by kernel_rfl) (fun _ _ _ h=>h) (Or.inl ⟨by rfl,?_⟩) hHeld ?_ ?_
 rotate_left
 ·rintro w' ⟨s0,s1,s2,s3⟩
  go_simp
  with_reducible rfl
 rotate_left
 ·simp only [Act.put,List.setIfInBounds_toArray,List.set_cons_zero,List.set_cons_succ,aZ,bf]
  rfl
 refine gB (i:=3) (N:=some 14) (v:=?_) (a':=?_) #[true,true,true,true,false,false,false,false,false,false,false,false,false,false] rfl rfl (by kernel_rfl) (fun _ _ _ h=>h) (Or.inl ⟨by rfl,?_⟩) hHeld ?_ ?_
 rotate_left
 ·rintro w' ⟨s0,s1,s2,s3⟩
  go_simp
  with_reducible rfl
 rotate_left
 ·simp only [Act.put,List.setIfInBounds_toArray,List.set_cons_zero,List.set_cons_succ,aZ,bf]
  rfl
 refine bU (i:=4) (N:=some 15) (v:=?_) (a':=?_) #[true,true,true,true,true,false,false,false,false,false,false,false,false,false] rfl rfl (by kernel_rfl) (fun _ _ _ h=>h) (Or.inl ⟨by rfl,?_⟩) ?_ ?_
 rotate_left
 ·intro w'
  go_simp
  with_reducible rfl
 rotate_left
 ·simp only [Act.put,List.setIfInBounds_toArray,List.set_cons_zero,List.set_cons_succ,aZ,bf]
  rfl
 refine bU (i:=5) (N:=some 16) (v:=?_) (a':=?_) #[true,true,true,true,true,true,false,false,false,false,false,false,false,false] rfl rfl (by kernel_rfl) (fun _ _ _ h=>h) (Or.inl ⟨by rfl,?_⟩) ?_ ?_
 rotate_left
 ·intro w'
  go_simp
  with_reducible rfl
 rotate_left
 ·simp only [Act.put,List.setIfInBounds_toArray,List.set_cons_zero,List.set_cons_succ,aZ,bf]
  rfl
 refine bU (i:=6) (N:=some 17) (v:=?_) (a':=?_) #[true,true,true,true,true,true,true,false,false,false,false,false,false,false] rfl rfl (by kernel_rfl) (fun _ _ _ h=>h) (Or.inl ⟨by rfl,?_⟩) ?_ ?_
 rotate_left
 ·intro w'
  go_simp
  with_reducible rfl
 rotate_left
 ·simp only [Act.put,List.setIfInBounds_toArray,List.set_cons_zero,List.set_cons_succ,aZ,bf]
  rfl
 refine gB (i:=7) (N:=some 18) (v:=?_) (a':=?_) #[true,true,true,true,true,true,true,true,false,false,false,false,false,false] rfl rfl (by kernel_rfl) (fun _ _ _ h=>h) (Or.inl ⟨by rfl,?_⟩) hHeld ?_ ?_
 rotate_left
 ·rintro w' ⟨s0,s1,s2,s3⟩
  go_simp
  with_reducible rfl
 rotate_left
 ·simp only [Act.put,List.setIfInBounds_toArray,List.set_cons_zero,List.set_cons_succ,aZ,bf]
  rfl
 refine o7 (i:=8) (N:=some 19) #[true,true,true,true,true,true,true,true,true,false,false,false,false,false] rfl rfl (by kernel_rfl) (by decide) (fun K hK=>?_)
 have qK:=kN Wx (hT.below hE.1)
 refine kP Try.func136 (by kernel_rfl) rfl #[.pointer (some ⟨b,0,none⟩),.agg #[.int .i64 x.f0.f0,.int .i64 x.f0.f1],.int .i64 s.nx] (by rfl) rfl rfl (by simp only [List.map_toArray,List.map_cons,List.map_nil];rfl) ?_
 with_reducible refine (qK).mono ?_
 rintro e W1 ⟨rfl,hb2⟩
 refine ⟨_,rfl,?_⟩
 clear qK
 replace mT:=ax mT hb2
 replace mP:=ax mP hb2
 replace mX:=ax mX hb2
 replace h0:=hJa _ _ _ h0 hb2
 replace hE:=hE.below hb2
 clear hb2
 refine hK.out _ _ ⟨((aa mP 0).trans rfl),((aa mX 0).trans rfl),((aa mX 1).trans rfl),((aa mT 0).trans rfl)⟩ (fun hHeld=>?_)
 clear hK K
 refine iP (a':=?_) ?_ ?_
 rotate_left
 ·show Act.put _ (some 19) _ = _
  simp only [Act.put,List.setIfInBounds_toArray,List.set_cons_zero,List.set_cons_succ,aZ,bf]
  rfl
 refine bU (i:=9) (N:=some 10) (v:=?_) (a':=?_) #[true,true,true,true,true,true,true,true,true,true,false,false,false,false] rfl rfl (by kernel_rfl) (fun _ _ _ h=>h) (Or.inl ⟨by rfl,?_⟩) ?_ ?_
 rotate_left
 ·intro w'
  go_simp
  with_reducible rfl
 rotate_left
 ·simp only [Act.put,List.setIfInBounds_toArray,List.set_cons_zero,List.set_cons_succ,aZ,bf]
  rfl
 refine bU (i:=10) (N:=some 20) (v:=?_) (a':=?_) #[true,true,true,true,true,true,true,true,true,true,true,false,false,false] rfl rfl (by kernel_rfl) (fun _ _ _ h=>h) (Or.inl ⟨by rfl,?_⟩) ?_ ?_
 rotate_left
 ·intro w'
  go_simp
  with_reducible rfl
 rotate_left
 ·simp only [Act.put,List.setIfInBounds_toArray,List.set_cons_zero,List.set_cons_succ,aZ,bf]
  rfl
 refine bU (i:=11) (N:=some 21) (v:=?_) (a':=?_) #[true,true,true,true,true,true,true,true,true,true,true,true,false,false] rfl rfl (by kernel_rfl) (fun _ _ _ h=>h) (Or.inl ⟨by rfl,?_⟩) ?_ ?_
 rotate_left
 ·intro w'
  go_simp
  with_reducible rfl
 rotate_left
 ·simp only [Act.put,List.setIfInBounds_toArray,List.set_cons_zero,List.set_cons_succ,aZ,bf]
  rfl
 refine bU (i:=12) (N:=some 4) (v:=?_) (a':=?_) #[true,true,true,true,true,true,true,true,true,true,true,true,true,false] rfl rfl (by kernel_rfl) (fun _ _ _ h=>h) (Or.inl ⟨by rfl,?_⟩) ?_ ?_
 rotate_left
 ·intro w'
  go_simp
  with_reducible rfl
 rotate_left
 ·simp only [Act.put,List.setIfInBounds_toArray,List.set_cons_zero,List.set_cons_succ,aZ,bf]
  rfl
 refine bU (i:=13) (N:=some 5) (v:=?_) (a':=?_) #[true,true,true,true,true,true,true,true,true,true,true,true,true,true] rfl rfl (by kernel_rfl) (fun _ _ _ h=>h) (Or.inl ⟨by rfl,?_⟩) ?_ ?_
 rotate_left
 ·intro w'
  go_simp
  with_reducible rfl
 rotate_left
 ·simp only [Act.put,List.setIfInBounds_toArray,List.set_cons_zero,List.set_cons_succ,aZ,bf]
  rfl
 refine tT (by kernel_rfl) ?_
 refine Ay ?_
 gi_wp2_with fail
 refine IE (wpIn_wide.2 ?_)
 replace mT:=ai mT
 replace mP:=ai mP
 replace mX:=ai mX
 replace h0:=hJa _ _ _ h0 (av (Below.refl _ _))
 replace hE:=hE.below (av (Below.refl _ _))
 refine qg (n:=14) (S:=fun w'=>w'.cell? ⟨bp,0,none⟩ = some (.pointer (some ⟨b,0,none⟩))∧w'.cell? ⟨bx,2,none⟩ = some (.int .i64 x.f1.f0)∧w'.cell? ⟨bx,3,none⟩ = some (.int .i64 x.f1.f1)∧w'.cell? ⟨b,1,none⟩ = some (.int .i64 s.ny)) (ds:=[]) #[false,false,false,false,false,false,false,false,false,false,false,false,false,false] (by kernel_rfl) rfl rfl ⟨((aa mP 0).trans rfl),((aa mX 2).trans rfl),((aa mX 3).trans rfl),((aa mT 1).trans rfl)⟩ (fun hHeld=>?_)
 generalize hWd:World.drew _ = Wx at*
 clear hWd
 refine bU (i:=1) (N:=some 24) (v:=?_) (a':=?_) #[false,true,false,false,false,false,false,false,false,false,false,false,false,false] rfl rfl (by kernel_rfl) (fun _ _ _ h=>h) (Or.inl ⟨by rfl,?_⟩) ?_ ?_
 rotate_left
 ·intro w'
  go_simp
  with_reducible rfl
 rotate_left
 ·simp only [Act.put,List.setIfInBounds_toArray,List.set_cons_zero,List.set_cons_succ,aZ,bf]
  rfl
 refine gB (i:=0) (N:=some 23) (v:=?_) (a':=?_) #[true,true,false,false,false,false,false,false,false,false,false,false,false,false] rfl rfl (by kernel_rfl) (fun _ _ _ h=>h) (Or.inl ⟨by rfl,?_⟩) hHeld ?_ ?_
 rotate_left
 ·rintro w' ⟨s0,s1,s2,s3⟩
  go_simp
  with_reducible rfl
 rotate_left
 ·simp only [Act.put,List.setIfInBounds_toArray,List.set_cons_zero,List.set_cons_succ,aZ,bf]
  rfl
 refine gB (i:=2) (N:=some 25) (v:=?_) (a':=?_) #[true,true,true,false,false,false,false,false,false,false,false,false,false,false] rfl rfl (by kernel_rfl) (fun _ _ _ h=>h) (Or.inl ⟨by rfl,?_⟩) hHeld ?_ ?_
 rotate_left
 ·rintro w' ⟨s0,s1,s2,s3⟩
  go_simp
  with_reducible rfl
 rotate_left
 ·simp only [Act.put,List.setIfInBounds_toArray,List.set_cons_zero,List.set_cons_succ,aZ,bf]
  rfl
 refine gB (i:=3) (N:=some 26) (v:=?_) (a':=?_) #[true,true,true,true,false,false,false,false,false,false,false,false,false,false] rfl rfl (by kernel_rfl) (fun _ _ _ h=>h) (Or.inl ⟨by rfl,?_⟩) hHeld ?_ ?_
 rotate_left
 ·rintro w' ⟨s0,s1,s2,s3⟩
  go_simp
  with_reducible rfl
 rotate_left
 ·simp only [Act.put,List.setIfInBounds_toArray,List.set_cons_zero,List.set_cons_succ,aZ,bf]
  rfl
 refine bU (i:=4) (N:=some 27) (v:=?_) (a':=?_) #[true,true,true,true,true,false,false,false,false,false,false,false,false,false] rfl rfl (by kernel_rfl) (fun _ _ _ h=>h) (Or.inl ⟨by rfl,?_⟩) ?_ ?_
 rotate_left
 ·intro w'
  go_simp
  with_reducible rfl
 rotate_left
 ·simp only [Act.put,List.setIfInBounds_toArray,List.set_cons_zero,List.set_cons_succ,aZ,bf]
  rfl
 refine bU (i:=5) (N:=some 28) (v:=?_) (a':=?_) #[true,true,true,true,true,true,false,false,false,false,false,false,false,false] rfl rfl (by kernel_rfl) (fun _ _ _ h=>h) (Or.inl ⟨by rfl,?_⟩) ?_ ?_
 rotate_left
 ·intro w'
  go_simp
  with_reducible rfl
 rotate_left
 ·simp only [Act.put,List.setIfInBounds_toArray,List.set_cons_zero,List.set_cons_succ,aZ,bf]
  rfl
 refine bU (i:=6) (N:=some 29) (v:=?_) (a':=?_) #[true,true,true,true,true,true,true,false,false,false,false,false,false,false] rfl rfl (by kernel_rfl) (fun _ _ _ h=>h) (Or.inl ⟨by rfl,?_⟩) ?_ ?_
 rotate_left
 ·intro w'
  go_simp
  with_reducible rfl
 rotate_left
 ·simp only [Act.put,List.setIfInBounds_toArray,List.set_cons_zero,List.set_cons_succ,aZ,bf]
  rfl
 refine gB (i:=7) (N:=some 30) (v:=?_) (a':=?_) #[true,true,true,true,true,true,true,true,false,false,false,false,false,false] rfl rfl (by kernel_rfl) (fun _ _ _ h=>h) (Or.inl ⟨by rfl,?_⟩) hHeld ?_ ?_
 rotate_left
 ·rintro w' ⟨s0,s1,s2,s3⟩
  go_simp
  with_reducible rfl
 rotate_left
 ·simp only [Act.put,List.setIfInBounds_toArray,List.set_cons_zero,List.set_cons_succ,aZ,bf]
  rfl
 refine o7 (i:=8) (N:=some 31) #[true,true,true,true,true,true,true,true,true,false,false,false,false,false] rfl rfl (by kernel_rfl) (by decide) (fun K hK=>?_)
 have qK:=kM Wx (hT.below hE.1)
 refine kP Try.func136 (by kernel_rfl) rfl #[.pointer (some ⟨b,0,none⟩),.agg #[.int .i64 x.f1.f0,.int .i64 x.f1.f1],.int .i64 s.ny] (by rfl) rfl rfl (by simp only [List.map_toArray,List.map_cons,List.map_nil];rfl) ?_
 with_reducible refine (qK).mono ?_
 rintro e W2 ⟨rfl,hb2⟩
 refine ⟨_,rfl,?_⟩
 clear qK
 replace mT:=ax mT hb2
 replace mP:=ax mP hb2
 replace mX:=ax mX hb2
 replace h0:=hJa _ _ _ h0 hb2
 replace hE:=hE.below hb2
 clear hb2
 refine hK.out _ _ ⟨((aa mP 0).trans rfl),((aa mX 2).trans rfl),((aa mX 3).trans rfl),((aa mT 1).trans rfl)⟩ (fun hHeld=>?_)
 clear hK K
 refine iP (a':=?_) ?_ ?_
 rotate_left
 ·show Act.put _ (some 31) _ = _
  simp only [Act.put,List.setIfInBounds_toArray,List.set_cons_zero,List.set_cons_succ,aZ,bf]
  rfl
 refine bU (i:=9) (N:=some 22) (v:=?_) (a':=?_) #[true,true,true,true,true,true,true,true,true,true,false,false,false,false] rfl rfl (by kernel_rfl) (fun _ _ _ h=>h) (Or.inl ⟨by rfl,?_⟩) ?_ ?_
 rotate_left
 ·intro w'
  go_simp
  with_reducible rfl
 rotate_left
 ·simp only [Act.put,List.setIfInBounds_toArray,List.set_cons_zero,List.set_cons_succ,aZ,bf]
  rfl
 refine bU (i:=10) (N:=some 32) (v:=?_) (a':=?_) #[true,true,true,true,true,true,true,true,true,true,true,false,false,false] rfl rfl (by kernel_rfl) (fun _ _ _ h=>h) (Or.inl ⟨by rfl,?_⟩) ?_ ?_
 rotate_left
 ·intro w'
  go_simp
  with_reducible rfl
 rotate_left
 ·simp only [Act.put,List.setIfInBounds_toArray,List.set_cons_zero,List.set_cons_succ,aZ,bf]
  rfl
 refine bU (i:=11) (N:=some 33) (v:=?_) (a':=?_) #[true,true,true,true,true,true,true,true,true,true,true,true,false,false] rfl rfl (by kernel_rfl) (fun _ _ _ h=>h) (Or.inl ⟨by rfl,?_⟩) ?_ ?_
 rotate_left
 ·intro w'
  go_simp
  with_reducible rfl
 rotate_left
 ·simp only [Act.put,List.setIfInBounds_toArray,List.set_cons_zero,List.set_cons_succ,aZ,bf]
  rfl
 refine bU (i:=12) (N:=some 6) (v:=?_) (a':=?_) #[true,true,true,true,true,true,true,true,true,true,true,true,true,false] rfl rfl (by kernel_rfl) (fun _ _ _ h=>h) (Or.inl ⟨by rfl,?_⟩) ?_ ?_
 rotate_left
 ·intro w'
  go_simp
  with_reducible rfl
 rotate_left
 ·simp only [Act.put,List.setIfInBounds_toArray,List.set_cons_zero,List.set_cons_succ,aZ,bf]
  rfl
 refine bU (i:=13) (N:=some 7) (v:=?_) (a':=?_) #[true,true,true,true,true,true,true,true,true,true,true,true,true,true] rfl rfl (by kernel_rfl) (fun _ _ _ h=>h) (Or.inl ⟨by rfl,?_⟩) ?_ ?_
 rotate_left
 ·intro w'
  go_simp
  with_reducible rfl
 rotate_left
 ·simp only [Act.put,List.setIfInBounds_toArray,List.set_cons_zero,List.set_cons_succ,aZ,bf]
  rfl
 refine tT (by kernel_rfl) ?_
 refine Ay ?_
 clear mT mP mX kN kM
 gi_wp2
 gi_loopw [8] (fun i wr=>∃ (q:Nat) (pre:List (zz s)),q≤(k1+1 - k0).toNat∧i = .int .i64 (k0+(q:Int))∧Hid (pre.map Subtype.val = yw s.nx i0 (i1+1 - i0).toNat k0 q 0)∧Env w0 bp bx b x wr∧J pre wr) (fun i _=>(k1+1 - intOf i).toNat)
 case atStart=>exact ⟨0,[],Nat.zero_le _,by simp,Lib.hid (by rw [TR];rfl),hE,h0⟩
 case round =>
  clear hE h0
  obtain ⟨q,pre,hq,rfl,HP,hE,hJs⟩:=hrel
  by_cases hlt:k0+(q:Int)≤k1
  ·gi_wp2
   gi_loopw [9] (fun i wr2=>∃ (j:Nat) (YU:List (zz s)),j≤(i1+1 - i0).toNat∧i = .int .i64 (i0+(j:Int))∧Hid (YU.map Subtype.val = yw s.nx i0 (i1+1 - i0).toNat k0 q j)∧Env w0 bp bx b x wr2∧J YU wr2) (fun i _=>(i1+1 - intOf i).toNat)
   case atStart=>exact ⟨0,pre,Nat.zero_le _,by simp,HP,hE,hJs⟩
   case round =>
    clear hE hJs
    obtain ⟨j,YU,hj,rfl,HQ,hE,hJ2⟩:=hrel
    by_cases hjk:i0+(j:Int)≤i1
    ·have hlen:YU.length < (qF s x).length:=by
      have h1:=Nv (nx:=s.nx) (i0:=i0) (k0:=k0) (show q < (k1+1 - k0).toNat by omega) (show j+1≤(i1+1 - i0).toNat by omega)
      have h2:=h1.length_le
      rw [Er,← HQ.out,← HAll.out] at h2
      simp at h2
      omega
     have hr:=row_in (ny:=s.ny) (k:=k0+(q:Int)) hnx.1 (by omega) (by omega)
     have hxy:=iV (show 0≤s.nx by omega) hnx.2 (show 0≤s.ny by omega) hny.2
     obtain ⟨fn,tmps,assign,body,hy,hR⟩:=hY YU ⟨(k0+(q:Int))*s.nx+(i0+(j:Int)),by omega,by omega⟩ _ hJ2 hlen
     dsimp only at hy
     have hE0:=hE
     obtain ⟨hb0,mP,_⟩:=hE0
     obtain ⟨A7,c7,A8,c8,mT,_⟩:=hT.below hb0
     clear hb0
     have cP:=(aa mP 0).trans rfl
     have cT:=(aa mT 0).trans rfl
     clear mT mP
     gi_wp2
     refine hR.mono ?_
     rintro e W3 (⟨rfl,hJ3,hk3⟩|⟨rfl,hJx3⟩)
     ·clear cP cT
      have hE3:=hKp _ _ hk3 hE
      clear hk3 hE
      gi_wp2
      go_roundw
      case rel=>exact ⟨j+1,_,by omega,by simp;omega,Lib.hid (by rw [List.map_append,HQ.out,Er];rfl),hE3,hJ3⟩
      case measure=>simp [intOf];omega
     ·gi_wp2
      refine bodyPost_ret (results_none rfl _ _ _) rfl ?_
      refine ⟨⟨_,rfl⟩,.inr ⟨_,?_,hJx3⟩⟩
      show List.map Subtype.val _ <+:_
      rw [List.map_append,HQ.out,List.map_singleton,← Er,HAll.out]
      exact Nv (by omega) (by omega)
    ·obtain rfl:j = (i1+1 - i0).toNat:=by omega
     gi_wp2
     go_roundw
     case rel=>exact ⟨q+1,YU,by omega,by simp;omega,Lib.hid (by rw [HQ.out,Nu,← IJ]),hE,hJ2⟩
     case measure=>simp [intOf];omega
  ·obtain rfl:q = (k1+1 - k0).toNat:=by omega
   gi_wp2
   go_end0
   exact ⟨⟨_,rfl⟩,.inl ⟨pre,by unfold aaA;rw [HAll.out,HP.out,Nu],hJs⟩⟩
end Go.Proofs.Ytmhaiihjfgfaoaa.Gl
end
section
namespace Go.Proofs.Ytmhaiihjfgfaoaa.Gl
open Go.RowKit Go.Shelf Go.Proofs.YtmhaiihjfgfaoaaW.PrintWords Go.Proofs.YtmhaiihjfgfaoaaW.PrintLast Go.Proofs.YtmhaiihjfgfaoaaW.PrintMore Go.Proofs.Ytmhaiihjfgfaoaa.Pr Go.Proofs.YtmhaiihjfgfaoaaW.Round
set_option linter.unusedVariables false
set_option linter.unusedSimpArgs false
attribute [local go_sem] fo fq gu gz fu
attribute [local go_sem] Oper.semAt_some
theorem iT.IK {W W1:World} {b:Nat} {c:Array Value} {t:TypeId} (h:W.heap[b]? = some (.cells c t (0,0))) (hb:Below W.heap.size W W1):iT W1 b c t:=(hb.block b (Array.getElem?_eq_some_iff.1 h).1).trans h
theorem LP {B b:Nat} {c:Array Value} {t:TypeId} {X Y:World} {row:Option Nat} (hs:iT X b c t) (hg:X.grownBy Y row) (hr:∀ r,row = some r→B≤r∧∃ o:Obj,X.heap[r]? = some o∧o.isCells = false):iT Y b c t :=
 (hg.block b (Array.getElem?_eq_some_iff.1 hs).1 (fun e=>by obtain ⟨_,o,ho,hc⟩:=hr b e.symm;rw [show X.heap[b]? = _ from hs] at ho;cases ho;cases hc)).trans hs
theorem AP {B:Nat} {W W1:World} (hb:Below W.heap.size W W1):KeepsFrom B W W1 :=
 ⟨hb.size,fun k o _ h0 _=>(hb.block k (Array.getElem?_eq_some_iff.1 h0).1).trans h0⟩
theorem qL {β:Type} (B b:Nat) (f:β→Array Value) (t:TypeId):OwnFrom B (fun s W=>iT W b (f s) t):=fun s X Y row hs hg hr=>LP hs hg hr
theorem ownFrom_pure {β:Type} (B:Nat) (f:β→Prop):OwnFrom B (fun s (_:World)=>f s):=fun s X Y row hs hg hr=>hs
theorem LQ {P:Program} {fn:Func} {p:Tmp} {ty:TypeId} {k:IntKind} (h:fn.results = #[.cell p ty]) (tmps:Array Value) (w:World) (g:Nat) (t:TypeId) (v:Value) (hp:tmps.getD p undef = .pointer (some ⟨g,0,none⟩)) (hg:w.heap[g]? = some (.cells #[v] t (0,0))) (hu:P.underlying ty = some (.int k)):
 (results fn tmps).run P w = .ok v w:=by
 have hp':tmps[p]?.getD undef = .pointer (some ⟨g,0,none⟩):=by simpa using hp
 have hc:w.cell? ⟨g,0,none⟩ = some v:=(aa hg 0).trans rfl
 have hb:(loadVar ty ⟨g,0,none⟩).run P w = .ok v w:=by
  have ha:(isAgg ty).run P w = .ok false w:=by
   unfold isAgg
   rw [Sem.run_bind,run_underlying hu w]
   rfl
  unfold loadVar
  rw [Sem.run_bind,ha]
  go_simp
 simp [results,h,hp',asAddr,hb]
def Bo (s:oH) (x:jI):Int:=if (qF s x).any (fun c=>PE false s.shores c) then 21 else 0
theorem afl {s:oH} {x:jI} {xs:List (zz s)} (h:aaA s x xs) (hf:∀ c ∈ xs,PE false s.shores c.1 = false):Bo s x = 0:=by
 unfold Bo
 rw [← show xs.map Subtype.val = qF s x from h,if_neg]
 rw [List.any_map,List.any_eq_true]
 rintro ⟨c,hc,h1⟩
 have h2:=hf c hc
 rw [show PE false s.shores c.1 = true from h1] at h2
 cases h2
theorem aaB {s:oH} {x:jI} {ini:List (zz s)} {last:zz s} (h:afk s x (ini++[last])) (hl:PE false s.shores last.1 = true):Bo s x = 21:=by
 unfold Bo
 obtain ⟨t,ht⟩:=h
 rw [← ht,if_pos]
 rw [List.map_append,List.any_append,List.any_append]
 simp [hl]
set_option maxRecDepth 100000 in
set_option maxHeartbeats 4000000 in
theorem aaC (b:Nat) (s:oH) (v:wW) (x:jI) (w:World) (hT:ma w b s v) (hS:Ar s) (hx:Jd s x) (hsh:(s.shores.length:Int) = s.nx*s.ny):
 Calls Try.prog 115 #[.pointer (some ⟨b,0,none⟩),.agg #[.int .i64 x.f0.f0,.int .i64 x.f0.f1,.int .i64 x.f1.f0,.int .i64 x.f1.f1]] w (vP (.int .i64 (Bo s x)) w):=by
 have vT:=Try.underlying31
 have hxy:=iV (show 0≤s.nx by have:=hS.nx;omega) hS.nx.2 (show 0≤s.ny by have:=hS.ny;omega) hS.ny.2
 have HSH:=Lib.hid hsh
 clear hsh
 refine (callsIn_wide (n:=6)).1 ?_
 refine callsIn_of_wp_marks Try.func115 rfl trivial ?_ rfl
 simp only [Try.ntmps115,List.size_toArray,List.length_cons,List.length_nil,Nat.reduceAdd,Nat.reduceSub,Array.replicate_succ,Array.replicate_zero,List.push_toArray,List.append_toArray,List.nil_append,List.cons_append]
 gi_wp2_with fail
 refine ⟨trivial,(callsIn_wide.2 (Je _ _ _)).mono ?_⟩
 rintro e W_ ⟨rfl,rfl⟩
 gi_wp2_with fail
 have m2:iT (((((w.alloc (.cells #[.pointer (some ⟨b,0,none⟩)] 104)).alloc (.cells #[.int .i64 x.f0.f0,.int .i64 x.f0.f1,.int .i64 x.f1.f0,.int .i64 x.f1.f1] 31)).alloc (.cells #[.int .i64 0] 36)).alloc (.cells #[.pointer (some ⟨b,0,none⟩)] 104)).alloc (.cells #[.int .i64 x.f0.f0,.int .i64 x.f0.f1,.int .i64 x.f1.f0,.int .i64 x.f1.f1] 31)) (w.heap.size) #[.pointer (some ⟨b,0,none⟩)] 104:=(af (af (af (af (by have h_:=fK w (.cells #[.pointer (some ⟨b,0,none⟩)] 104);first|exact h_|(simp only [World.size_alloc] at h_;exact h_)) _) _) _) _)
 have m3:iT (((((w.alloc (.cells #[.pointer (some ⟨b,0,none⟩)] 104)).alloc (.cells #[.int .i64 x.f0.f0,.int .i64 x.f0.f1,.int .i64 x.f1.f0,.int .i64 x.f1.f1] 31)).alloc (.cells #[.int .i64 0] 36)).alloc (.cells #[.pointer (some ⟨b,0,none⟩)] 104)).alloc (.cells #[.int .i64 x.f0.f0,.int .i64 x.f0.f1,.int .i64 x.f1.f0,.int .i64 x.f1.f1] 31)) (w.heap.size+1) #[.int .i64 x.f0.f0,.int .i64 x.f0.f1,.int .i64 x.f1.f0,.int .i64 x.f1.f1] 31:=(af (af (af (by have h_:=fK (w.alloc (.cells #[.pointer (some ⟨b,0,none⟩)] 104)) (.cells #[.int .i64 x.f0.f0,.int .i64 x.f0.f1,.int .i64 x.f1.f0,.int .i64 x.f1.f1] 31);first|exact h_|(simp only [World.size_alloc] at h_;exact h_)) _) _) _)
 have m4:iT (((((w.alloc (.cells #[.pointer (some ⟨b,0,none⟩)] 104)).alloc (.cells #[.int .i64 x.f0.f0,.int .i64 x.f0.f1,.int .i64 x.f1.f0,.int .i64 x.f1.f1] 31)).alloc (.cells #[.int .i64 0] 36)).alloc (.cells #[.pointer (some ⟨b,0,none⟩)] 104)).alloc (.cells #[.int .i64 x.f0.f0,.int .i64 x.f0.f1,.int .i64 x.f1.f0,.int .i64 x.f1.f1] 31)) (w.heap.size+1+1) #[.int .i64 0] 36:=(af (af (by have h_:=fK ((w.alloc (.cells #[.pointer (some ⟨b,0,none⟩)] 104)).alloc (.cells #[.int .i64 x.f0.f0,.int .i64 x.f0.f1,.int .i64 x.f1.f0,.int .i64 x.f1.f1] 31)) (.cells #[.int .i64 0] 36);first|exact h_|(simp only [World.size_alloc] at h_;exact h_)) _) _)
 have mP:iT (((((w.alloc (.cells #[.pointer (some ⟨b,0,none⟩)] 104)).alloc (.cells #[.int .i64 x.f0.f0,.int .i64 x.f0.f1,.int .i64 x.f1.f0,.int .i64 x.f1.f1] 31)).alloc (.cells #[.int .i64 0] 36)).alloc (.cells #[.pointer (some ⟨b,0,none⟩)] 104)).alloc (.cells #[.int .i64 x.f0.f0,.int .i64 x.f0.f1,.int .i64 x.f1.f0,.int .i64 x.f1.f1] 31)) (w.heap.size+1+1+1) #[.pointer (some ⟨b,0,none⟩)] 104:=(af (by have h_:=fK (((w.alloc (.cells #[.pointer (some ⟨b,0,none⟩)] 104)).alloc (.cells #[.int .i64 x.f0.f0,.int .i64 x.f0.f1,.int .i64 x.f1.f0,.int .i64 x.f1.f1] 31)).alloc (.cells #[.int .i64 0] 36)) (.cells #[.pointer (some ⟨b,0,none⟩)] 104);first|exact h_|(simp only [World.size_alloc] at h_;exact h_)) _)
 have mX:iT (((((w.alloc (.cells #[.pointer (some ⟨b,0,none⟩)] 104)).alloc (.cells #[.int .i64 x.f0.f0,.int .i64 x.f0.f1,.int .i64 x.f1.f0,.int .i64 x.f1.f1] 31)).alloc (.cells #[.int .i64 0] 36)).alloc (.cells #[.pointer (some ⟨b,0,none⟩)] 104)).alloc (.cells #[.int .i64 x.f0.f0,.int .i64 x.f0.f1,.int .i64 x.f1.f0,.int .i64 x.f1.f1] 31)) (w.heap.size+1+1+1+1) #[.int .i64 x.f0.f0,.int .i64 x.f0.f1,.int .i64 x.f1.f0,.int .i64 x.f1.f1] 31:=(by have h_:=fK ((((w.alloc (.cells #[.pointer (some ⟨b,0,none⟩)] 104)).alloc (.cells #[.int .i64 x.f0.f0,.int .i64 x.f0.f1,.int .i64 x.f1.f0,.int .i64 x.f1.f1] 31)).alloc (.cells #[.int .i64 0] 36)).alloc (.cells #[.pointer (some ⟨b,0,none⟩)] 104)) (.cells #[.int .i64 x.f0.f0,.int .i64 x.f0.f1,.int .i64 x.f1.f0,.int .i64 x.f1.f1] 31);first|exact h_|(simp only [World.size_alloc] at h_;exact h_))
 have mB:Below w.heap.size w (((((w.alloc (.cells #[.pointer (some ⟨b,0,none⟩)] 104)).alloc (.cells #[.int .i64 x.f0.f0,.int .i64 x.f0.f1,.int .i64 x.f1.f0,.int .i64 x.f1.f1] 31)).alloc (.cells #[.int .i64 0] 36)).alloc (.cells #[.pointer (some ⟨b,0,none⟩)] 104)).alloc (.cells #[.int .i64 x.f0.f0,.int .i64 x.f0.f1,.int .i64 x.f1.f0,.int .i64 x.f1.f1] 31)):=(au (au (au (au (au (Below.refl w.heap.size w) _) _) _) _) _)
 have qi:w.heap.size≤w.heap.size:=Nat.le_refl _
 generalize zx:(((((w.alloc (.cells #[.pointer (some ⟨b,0,none⟩)] 104)).alloc (.cells #[.int .i64 x.f0.f0,.int .i64 x.f0.f1,.int .i64 x.f1.f0,.int .i64 x.f1.f1] 31)).alloc (.cells #[.int .i64 0] 36)).alloc (.cells #[.pointer (some ⟨b,0,none⟩)] 104)).alloc (.cells #[.int .i64 x.f0.f0,.int .i64 x.f0.f1,.int .i64 x.f1.f0,.int .i64 x.f1.f1] 31)) = W0 at m2 m3 m4 mP mX mB ⊢
 clear zx
 generalize hg2:w.heap.size = g2 at m2 m3 m4 mP mX ⊢
 have hG2:w.heap.size≤g2:=by omega
 generalize hg3:g2+1 = g3 at m3 m4 mP mX ⊢
 have TS:g2≠g3:=by omega
 have ah4:g3≠g2:=TS.symm
 have hG3:w.heap.size≤g3:=by omega
 generalize hg4:g3+1 = g4 at m4 mP mX ⊢
 have ah5:g2≠g4:=by omega
 have ah6:g3≠g4:=by omega
 have aBw:g4≠g2:=ah5.symm
 have aBx:g4≠g3:=ah6.symm
 have hG4:w.heap.size≤g4:=by omega
 generalize hgP:g4+1 = gP at mP mX ⊢
 have ah7:g2≠gP:=by omega
 have ah8:g3≠gP:=by omega
 have ah9:g4≠gP:=by omega
 have aBy:gP≠g2:=ah7.symm
 have aBz:gP≠g3:=ah8.symm
 have aBA:gP≠g4:=ah9.symm
 have hGP:w.heap.size≤gP:=by omega
 generalize hgX:gP+1 = gX at mX ⊢
 have aia:g2≠gX:=by omega
 have aib:g3≠gX:=by omega
 have aic:g4≠gX:=by omega
 have Qu:gP≠gX:=by omega
 have aBB:gX≠g2:=aia.symm
 have aBC:gX≠g3:=aib.symm
 have aBD:gX≠g4:=aic.symm
 have aaD:gX≠gP:=Qu.symm
 have hGX:w.heap.size≤gX:=by omega
 clear qi
 try clear hgX
 try clear hgP
 try clear hg4
 try clear hg3
 try clear hg2
 have Ns:w.heap.size≤W0.heap.size:=mB.size
 refine wpIn_rangeFunc_ownH rfl (by omega) (gf:=135) (lb:=#[.pointer (some ⟨gP,0,none⟩),.pointer (some ⟨gX,0,none⟩)]) rfl trivial (enters_of Try.func135 (by kernel_rfl) rfl)
  (encs:=fun c:zz s=>#[.int .i64 c.1]) (Kp:=Below W0.heap.size) (S:=aaA s x) (Sp:=afk s x) (N:=(qF s x).length) (w0:=W0)
  (fun l J Jx W hW hJ _ hY h0=>Jf 5 (by omega) l gP gX W0 b s v x (hT.below mB) hS hx (Below W0.heap.size) (fun A B h hE=>⟨hE.1.trans h,(h.block gP (aU mP)).trans hE.2.1,(h.block gX (aU mX)).trans hE.2.2⟩) J Jx hY (fun f X Y h hB=>hJ f X Y none h ⟨hB.os,hB.tape,hB.output,hB.size,fun k hk _=>hB.block k hk⟩ (fun r e=>by cases e)) W ⟨hW,iT.IK mP hW,iT.IK mX hW⟩ h0) belowK_t (belowK_b (by omega)) (Below.refl _ _) (fun _=>rfl)
  (fun pre W=>(∀ c ∈ pre,PE false s.shores c.1 = false)∧iT W g2 #[.pointer (some ⟨b,0,none⟩)] 104∧iT W g4 #[.int .i64 0] 36∧Below w.heap.size w W)
  (fun c pre W=>∃ ini last,(c = .ret∧pre = ini++[last]∧PE false s.shores last.1 = true)∧iT W g4 #[.int .i64 21] 36∧Below w.heap.size w W)
  (OwnFrom.and (ownFrom_pure _ _) (OwnFrom.and (qL _ _ (fun _=>_) _) (OwnFrom.and (qL _ _ (fun _=>_) _) (ownFrom_below (by omega) (by omega)))))
  (fun c pre X Y row hs hg hr=>by
   obtain ⟨ini,last,h1,h2,h3⟩:=hs
   exact ⟨ini,last,h1,LP h2 hg hr,ownFrom_below (by omega) (by omega) () X Y row h3 hg hr⟩)
  ⟨by simp,m2,m4,mB⟩
  (fun c a' W=>a' = { tmps:=#[.pointer (some ⟨b,0,none⟩),.agg #[.int .i64 x.f0.f0,.int .i64 x.f0.f1,.int .i64 x.f1.f0,.int .i64 x.f1.f1],.pointer (some ⟨g2,0,none⟩),.pointer (some ⟨g3,0,none⟩),.pointer (some ⟨g4,0,none⟩),.int .i64 c.1,.pointer (some ⟨b,0,none⟩),.agg #[.int .i64 x.f0.f0,.int .i64 x.f0.f1,.int .i64 x.f1.f0,.int .i64 x.f1.f1],.func (.func 135) #[] #[.pointer (some ⟨gP,0,none⟩),.pointer (some ⟨gX,0,none⟩)],.int .i64 c.1,undef,undef,undef,undef,undef,undef,undef,undef],defers:=[] })
  (fun c a' s X Y row hs hg hr=>hs) ?assign ?body ?done ?stop
 case assign =>
  rintro l pre c W K hI hK
  gi_wp2
  exact hK _ _ ((KeepsOthers.refl W).from _) (Below.refl _ _) hI rfl
 case body =>
  rintro l pre c a' W hlW ⟨r,hr⟩ ⟨h0,h2,h4,hB⟩ rfl hlen
  have hT2:=hT.below hB
  obtain ⟨A7,c7,A8,c8,hBt,q1,q2,_⟩:=hT2
  have hlt:c.1 < (s.shores.length:Int):=by rw [HSH.out];exact c.2.2
  have hge:=c.2.1
  obtain ⟨ad,e_,hx_⟩:=Kd.aeE q2 c.1 hge hlt
  cases e_
  have c2:=(aa h2 0).trans rfl
  have ct:=(aa hBt 7).trans rfl
  clear hBt q1 q2 hr
  cases hv:PE false s.shores c.1 with
  |false =>
   rw [hv] at hx_
   have HV:=Lib.hid hv
   clear hv
   gi_wp2
   exact ⟨(KeepsOthers.refl W).from _,Below.refl _ _,by
    intro p hp
    rcases List.mem_append.1 hp with hp|hp
    ·exact h0 p hp
    ·obtain rfl:=List.mem_singleton.1 hp
     exact HV.out,h2,h4,hB⟩
  |true =>
   rw [hv] at hx_
   have HV:=Lib.hid hv
   clear hv
   have c4:=(aa h4 0).trans rfl
   have f4:=ae h4 0
   gi_wp2
   exact ⟨(KeepsOthers.setCell _ _ _).from _,pre,c,⟨rfl,rfl,HV.out⟩,aW h4 0 _ rfl,hB.setCell hG4 _⟩
 case done =>
  rintro D_ xs W hD hxs ⟨h0,h2,h4,hB⟩ hK
  have hE:=Lib.hid (afl hxs h0)
  clear h0
  have c4:=(aa h4 0).trans rfl
  have f4:=ae h4 0
  gi_wp2
  have hne:D_≠g4:=by have h_:=aU m4;omega
  refine ⟨by simp,.inl ⟨_,_,rfl,run_takeDeferred ((Below.heap_setCell _ _ _ D_ hne).trans hK),?_⟩⟩
  exact ⟨_,LQ rfl _ _ g4 36 (.int .i64 0) rfl ((World.putObj_heap_other (fun e=>hne e.symm)).trans (aW h4 0 _ rfl)) Try.underlying36,by rw [hE.out],(hB.setCell hG4 _).trans (belowK_b (w:=w) (Nat.le_refl _) _ D_ _ _ (by have h_:=hB.size;omega) ((Below.heap_setCell _ _ _ D_ hne).trans hK) rfl rfl)⟩
 case stop =>
  rintro D_ c pre W hD hp ⟨ini,last,⟨rfl,rfl,h1⟩,h4,hB⟩ hK
  have hE:=Lib.hid (aaB hp h1)
  gi_wp2
  have hne:D_≠g4:=by have h_:=aU m4;omega
  refine ⟨by simp,.inl ⟨_,_,rfl,run_takeDeferred hK,?_⟩⟩
  exact ⟨_,LQ rfl _ _ g4 36 (.int .i64 21) rfl ((World.putObj_heap_other (fun e=>hne e.symm)).trans h4) Try.underlying36,by rw [hE.out],hB.trans (belowK_b (w:=w) (Nat.le_refl _) _ D_ _ _ (by omega) hK rfl rfl)⟩
end Go.Proofs.Ytmhaiihjfgfaoaa.Gl
end
section
namespace Go.Proofs.Ytmhaiihjfgfaoaa.Pr
open Go.RowKit Go.Proofs.YtmhaiihjfgfaoaaW.PrintWords Go.Proofs.YtmhaiihjfgfaoaaW.PrintLast Go.Proofs.YtmhaiihjfgfaoaaW.PrintMore
attribute [local go_sem] fo fq gu gz fu
set_option linter.unusedVariables false
set_option linter.unusedSimpArgs false
def yx.f (aC:Int) (aD:Int) (aG:Int) (aH:Int) (bz:Int) (bA:Int) (bI:Int) (bJ:Int):Option (Int × Int × Int × Int):=some (mn aC bz,mx aD bA,mn aG bI,mx aH bJ)
set_option maxHeartbeats 8000000 in
set_option maxRecDepth 100000 in
theorem yx.calls (aC:Int) (aD:Int) (aG:Int) (aH:Int) (bz:Int) (bA:Int) (bI:Int) (bJ:Int) (r1:Int) (r2:Int) (r3:Int) (r4:Int) (w:World) (h:yx.f aC aD aG aH bz bA bI bJ = some (r1,r2,r3,r4)):
 Calls Try.prog 119 #[.agg #[.int .i64 aC,.int .i64 aD,.int .i64 aG,.int .i64 aH],.agg #[.int .i64 bz,.int .i64 bA,.int .i64 bI,.int .i64 bJ]] w fun e w'=>e = .returned (.agg #[.int .i64 r1,.int .i64 r2,.int .i64 r3,.int .i64 r4])∧Below w.heap.size w w':=by
 have vT:=Try.underlying31
 have sU:=Try.underlying27
 have HB:=aj.mk (Below.refl w.heap.size w)
 have H:(some (mn aC bz,mx aD bA,mn aG bI,mx aH bJ)) = some (r1,r2,r3,r4):=h
 clear h
 obtain ⟨Et,AV⟩:∃ j_:Int,(mn aC bz) = j_:=⟨_,rfl⟩
 replace H:(some (Et,mx aD bA,mn aG bI,mx aH bJ)) = some (r1,r2,r3,r4):=by first|(rw [AV] at H;exact H)|(simp only [AV] at H ⊢;exact H)
 have agh:(if bz < aC then bz else aC) = Et:=AV
 obtain ⟨ZB,OW⟩:∃ j_:Int,(mx aD bA) = j_:=⟨_,rfl⟩
 replace H:(some (Et,ZB,mn aG bI,mx aH bJ)) = some (r1,r2,r3,r4):=by first|(rw [OW] at H;exact H)|(simp only [OW] at H ⊢;exact H)
 have anT:(if aD < bA then bA else aD) = ZB:=OW
 obtain ⟨ji5,afm⟩:∃ j_:Int,(mn aG bI) = j_:=⟨_,rfl⟩
 replace H:(some (Et,ZB,ji5,mx aH bJ)) = some (r1,r2,r3,r4):=by first|(rw [afm] at H;exact H)|(simp only [afm] at H ⊢;exact H)
 have aD9:(if bI < aG then bI else aG) = ji5:=afm
 obtain ⟨ji6,afn⟩:∃ j_:Int,(mx aH bJ) = j_:=⟨_,rfl⟩
 replace H:(some (Et,ZB,ji5,ji6)) = some (r1,r2,r3,r4):=by first|(rw [afn] at H;exact H)|(simp only [afn] at H ⊢;exact H)
 have aEa:(if aH < bJ then bJ else aH) = ji6:=afn
 simp only [Option.some.injEq,Prod.mk.injEq] at H
 obtain ⟨rfl,rfl,rfl,rfl⟩:=H
 go_enter Try.func119,Try.ntmps119
 go_wp2_with (first|((with_reducible refine bu (N:=2) rfl ?_);refine aY ?hg (N:=2) ?hd (cs:=#[.int .i64 aC,.int .i64 aD,.int .i64 aG,.int .i64 aH]) (t:=31) ?hr ?_;(case hd=>rfl);(case hg=>rfl);(case hr=>first|(go_simp;done)|(go_simp;rfl));intro vS hg w7 hbox hb;have bB:=aj.mk (ay (by repeat (first|(with_reducible first|exact HB.out|apply au|apply ah|apply av)|exact HB.out)) hb);have bC:=aj.mk (hbox);have bK:=aj.mk ((by rw [hg];exact (aA (by repeat (first|(with_reducible first|exact HB.out|apply au|apply ah|apply av)|exact HB.out))):w.heap.size≤vS));have bP:=aj.mk ((by rw [hg];exact (aA (by repeat (first|(with_reducible first|exact HB.out|apply au|apply ah|apply av)|exact HB.out))):w.heap.size≤vS));clear HB;have HB:=bB;have uq:=bC;have aEb:=bK;have LU:=bP;clear bB bC bK bP;clear hb hbox hg)|((with_reducible refine bu (N:=3) rfl ?_);refine aY ?hg (N:=3) ?hd (cs:=#[.int .i64 bz,.int .i64 bA,.int .i64 bI,.int .i64 bJ]) (t:=31) ?hr ?_;(case hd=>rfl);(case hg=>rfl);(case hr=>first|(go_simp;done)|(go_simp;rfl));intro zA hg w8 hbox hb;have bB:=aj.mk (ax (g:=vS) (o:=.cells #[.int .i64 aC,.int .i64 aD,.int .i64 aG,.int .i64 aH] 31 (0,0)) (by (with_reducible repeat (first|refine ag ?_ _|refine ai ?_|refine af ?_ _));exact uq.out) hb);have bC:=aj.mk (ay (by repeat (first|(with_reducible first|exact HB.out|apply au|apply ah|apply av|refine ak ?_ LU.out)|exact HB.out)) hb);have bK:=aj.mk (hbox);have bP:=aj.mk ((by rw [hg];exact (aA (by repeat (first|(with_reducible first|exact HB.out|apply au|apply ah|apply av|refine ak ?_ LU.out)|exact HB.out))):w.heap.size≤zA));have dX:=aj.mk ((by rw [hg];exact (aA (by repeat (first|(with_reducible first|exact HB.out|apply au|apply ah|apply av|refine ak ?_ LU.out)|exact HB.out))):w.heap.size≤zA));have fB:=aj.mk ((by rw [hg];exact Nat.ne_of_lt (aU (g:=vS) (o:=.cells #[.int .i64 aC,.int .i64 aD,.int .i64 aG,.int .i64 aH] 31 (0,0)) (by (with_reducible repeat (first|refine ag ?_ _|refine ai ?_|refine af ?_ _));exact uq.out)):vS≠zA));have gD:=aj.mk ((by rw [hg];exact Nat.ne_of_gt (aU (g:=vS) (o:=.cells #[.int .i64 aC,.int .i64 aD,.int .i64 aG,.int .i64 aH] 31 (0,0)) (by (with_reducible repeat (first|refine ag ?_ _|refine ai ?_|refine af ?_ _));exact uq.out)):zA≠vS));clear uq;clear HB;have uq:=bB;have HB:=bC;have zB:=bK;have aEc:=bP;have XK:=dX;have YV:=fB;have YW:=gD;clear bB bC bK bP dX fB gD;clear hb hbox hg)|((with_reducible refine bu (N:=4) rfl ?_);refine aY ?hg (N:=4) ?hd (cs:=#[.int .i64 0,.int .i64 0,.int .i64 0,.int .i64 0]) (t:=31) ?hr ?_;(case hd=>rfl);(case hg=>rfl);(case hr=>first|(go_simp;done)|(go_simp;rfl));intro Bp hg w9 hbox hb;have bB:=aj.mk (ax (g:=vS) (o:=.cells #[.int .i64 aC,.int .i64 aD,.int .i64 aG,.int .i64 aH] 31 (0,0)) (by (with_reducible repeat (first|refine ag ?_ _|refine ai ?_|refine af ?_ _));exact uq.out) hb);have bC:=aj.mk (ax (g:=zA) (o:=.cells #[.int .i64 bz,.int .i64 bA,.int .i64 bI,.int .i64 bJ] 31 (0,0)) (by (with_reducible repeat (first|refine ag ?_ _|refine ai ?_|refine af ?_ _));exact zB.out) hb);have bK:=aj.mk (ay (by repeat (first|(with_reducible first|exact HB.out|apply au|apply ah|apply av|refine ak ?_ LU.out|refine ak ?_ XK.out)|exact HB.out)) hb);have bP:=aj.mk (hbox);have dX:=aj.mk ((by rw [hg];exact (aA (by repeat (first|(with_reducible first|exact HB.out|apply au|apply ah|apply av|refine ak ?_ LU.out|refine ak ?_ XK.out)|exact HB.out))):w.heap.size≤Bp));have fB:=aj.mk ((by rw [hg];exact (aA (by repeat (first|(with_reducible first|exact HB.out|apply au|apply ah|apply av|refine ak ?_ LU.out|refine ak ?_ XK.out)|exact HB.out))):w.heap.size≤Bp));have gD:=aj.mk ((by rw [hg];exact Nat.ne_of_lt (aU (g:=vS) (o:=.cells #[.int .i64 aC,.int .i64 aD,.int .i64 aG,.int .i64 aH] 31 (0,0)) (by (with_reducible repeat (first|refine ag ?_ _|refine ai ?_|refine af ?_ _));exact uq.out)):vS≠Bp));have jK:=aj.mk ((by rw [hg];exact Nat.ne_of_gt (aU (g:=vS) (o:=.cells #[.int .i64 aC,.int .i64 aD,.int .i64 aG,.int .i64 aH] 31 (0,0)) (by (with_reducible repeat (first|refine ag ?_ _|refine ai ?_|refine af ?_ _));exact uq.out)):Bp≠vS));have jL:=aj.mk ((by rw [hg];exact Nat.ne_of_lt (aU (g:=zA) (o:=.cells #[.int .i64 bz,.int .i64 bA,.int .i64 bI,.int .i64 bJ] 31 (0,0)) (by (with_reducible repeat (first|refine ag ?_ _|refine ai ?_|refine af ?_ _));exact zB.out)):zA≠Bp));have kL:=aj.mk ((by rw [hg];exact Nat.ne_of_gt (aU (g:=zA) (o:=.cells #[.int .i64 bz,.int .i64 bA,.int .i64 bI,.int .i64 bJ] 31 (0,0)) (by (with_reducible repeat (first|refine ag ?_ _|refine ai ?_|refine af ?_ _));exact zB.out)):Bp≠zA));clear uq;clear zB;clear HB;have uq:=bB;have zB:=bC;have HB:=bK;have GD:=bP;have aEd:=dX;have apj:=fB;have YX:=gD;have YY:=jK;have YZ:=jL;have Y0:=kL;clear bB bC bK bP dX fB gD jK jL kL;clear hb hbox hg;have agA:=YV.out;have agB:=YW.out;have Vq:=YX.out;have Vr:=YY.out;have xY:w9.cell? ⟨vS,0,none⟩ = some (.int .i64 aC):=(aa uq.out 0).trans rfl;have xZ:w9.cell? ⟨vS,1,none⟩ = some (.int .i64 aD):=(aa uq.out 1).trans rfl;have OQ:w9.cell? ⟨vS,2,none⟩ = some (.int .i64 aG):=(aa uq.out 2).trans rfl;have OT:w9.cell? ⟨vS,3,none⟩ = some (.int .i64 aH):=(aa uq.out 3).trans rfl;have x8:=ae uq.out 0;have x9:=ae uq.out 1;have OU:=ae uq.out 2;have OV:=ae uq.out 3;have QG:=YZ.out;have QH:=Y0.out;have xw:w9.cell? ⟨zA,0,none⟩ = some (.int .i64 bz):=(aa zB.out 0).trans rfl;have xx:w9.cell? ⟨zA,1,none⟩ = some (.int .i64 bA):=(aa zB.out 1).trans rfl;have EB:w9.cell? ⟨zA,2,none⟩ = some (.int .i64 bI):=(aa zB.out 2).trans rfl;have EC:w9.cell? ⟨zA,3,none⟩ = some (.int .i64 bJ):=(aa zB.out 3).trans rfl;have xy:=ae zB.out 0;have xz:=ae zB.out 1;have ED:=ae zB.out 2;have EE:=ae zB.out 3;have qj:w9.cell? ⟨Bp,0,none⟩ = some (.int .i64 0):=(aa GD.out 0).trans rfl;have ql:w9.cell? ⟨Bp,1,none⟩ = some (.int .i64 0):=(aa GD.out 1).trans rfl;have rG:w9.cell? ⟨Bp,2,none⟩ = some (.int .i64 0):=(aa GD.out 2).trans rfl;have rH:w9.cell? ⟨Bp,3,none⟩ = some (.int .i64 0):=(aa GD.out 3).trans rfl;have qm:=ae GD.out 0;have qo:=ae GD.out 1;have rJ:=ae GD.out 2;have rM:=ae GD.out 3))
 refine bodyPost_ret (results_cell_row rfl _ _ Bp 31 #[.int .i64 Et,.int .i64 ZB,.int .i64 ji5,.int .i64 ji6] (0,0) _ rfl (by (with_reducible repeat (first|refine ag ?_ _|refine ai ?_|refine af ?_ _));refine aW (cs:=#[.int .i64 Et,.int .i64 ZB,.int .i64 ji5,.int .i64 0]) ?_ 3 _ rfl;(with_reducible repeat (first|refine ag ?_ _|refine ai ?_|refine af ?_ _));refine aW (cs:=#[.int .i64 Et,.int .i64 ZB,.int .i64 0,.int .i64 0]) ?_ 2 _ rfl;(with_reducible repeat (first|refine ag ?_ _|refine ai ?_|refine af ?_ _));refine aW (cs:=#[.int .i64 Et,.int .i64 0,.int .i64 0,.int .i64 0]) ?_ 1 _ rfl;(with_reducible repeat (first|refine ag ?_ _|refine ai ?_|refine af ?_ _));refine aW (cs:=#[.int .i64 0,.int .i64 0,.int .i64 0,.int .i64 0]) ?_ 0 _ rfl;(with_reducible repeat (first|refine ag ?_ _|refine ai ?_|refine af ?_ _));exact GD.out) Try.underlying31 rfl (by kernel_rfl)) rfl ?_
 exact ⟨by first|rfl|(simp [aQ,aT] <;> rfl)|(simp only [← AV,← OW,← afm,← afn];first|rfl|(simp [aQ,aT] <;> rfl))|(simp [*,aQ,aT] <;> rfl),by repeat (first|(with_reducible first|exact HB.out|apply au|apply ah|apply av|refine ak ?_ LU.out|refine ak ?_ XK.out|refine ak ?_ apj.out)|exact HB.out)⟩
end Go.Proofs.Ytmhaiihjfgfaoaa.Pr
end
section
namespace Go.Proofs.Ytmhaiihjfgfaoaa.Gl
open Go.RowKit Go.Shelf Go.Proofs.YtmhaiihjfgfaoaaW.PrintWords Go.Proofs.YtmhaiihjfgfaoaaW.PrintLast Go.Proofs.YtmhaiihjfgfaoaaW.PrintMore Go.Proofs.Ytmhaiihjfgfaoaa.Pr Go.Proofs.YtmhaiihjfgfaoaaW.Round
set_option linter.unusedVariables false
set_option linter.unusedSimpArgs false
attribute [local go_sem] fo fq gu gz fu
attribute [local go_sem] Oper.semAt_some
theorem EP (a b:Int):mn a b = min a b:=by unfold mn;split <;> omega
theorem Ah (a b:Int):mx a b = max a b:=by unfold mx;split <;> omega
def vR (a b:jI):jI:=⟨⟨min a.f0.f0 b.f0.f0,max a.f0.f1 b.f0.f1⟩,⟨min a.f1.f0 b.f1.f0,max a.f1.f1 b.f1.f1⟩⟩
def Rt (o:Option jI) (y:jI):Option jI:=some (match o with|none=>y|some z=>vR z y)
def sD (l:List jI):Option jI:=l.foldl Rt none
theorem Eb (l:List jI) (y:jI):sD (l++[y]) = Rt (sD l) y:=by unfold sD;rw [List.foldl_append];rfl
def vE (s:oH) (layer j c:Int):jI:=⟨(bn s.currents ((j*s.layers+layer)*(s.nx*s.ny)+c)).f0,(bn s.currents ((j*s.layers+layer)*(s.nx*s.ny)+c)).f1⟩
def slotL (s:oH) (x:jI) (layer j:Int):List jI:=(qF s x).map (vE s layer j)
def jk (s:oH) (x:jI) (layer j0:Int) (q:Nat):List jI:=(List.range q).flatMap fun r:Nat=>slotL s x layer (j0+(r:Int))
theorem Ru (s:oH) (x:jI) (layer j0:Int) (q:Nat):jk s x layer j0 (q+1) = jk s x layer j0 q++slotL s x layer (j0+(q:Int)):=by
 unfold jk
 rw [List.range_succ,List.flatMap_append,List.flatMap_singleton]
def Mc (s:oH) (x:jI) (layer t u:Int):jI:=(sD (jk s x layer (t / s.slot) ((u - 1) / s.slot+1 - t / s.slot).toNat)).getD z31
def DK (w:World) (bp bx b:Nat) (x:jI) (A B:World):Prop:=Below w.heap.size A B∧(iT A bp #[.pointer (some ⟨b,0,none⟩)] 104→iT B bp #[.pointer (some ⟨b,0,none⟩)] 104)∧(iT A bx #[.int .i64 x.f0.f0,.int .i64 x.f0.f1,.int .i64 x.f1.f0,.int .i64 x.f1.f1] 31→iT B bx #[.int .i64 x.f0.f0,.int .i64 x.f0.f1,.int .i64 x.f1.f0,.int .i64 x.f1.f1] 31)
theorem DK.trans {w:World} {bp bx b:Nat} {x:jI} {A B C:World} (h:DK w bp bx b x A B) (k:DK w bp bx b x B C):DK w bp bx b x A C:=⟨h.1.trans k.1,fun q=>k.2.1 (h.2.1 q),fun q=>k.2.2 (h.2.2 q)⟩
theorem DK.put {w W0:World} {bp bx b:Nat} {x:jI} (hw:w.heap.size≤W0.heap.size) (hp:bp < W0.heap.size) (hx:bx < W0.heap.size) (W:World) (l:Nat) (o o':Obj) (hl:W0.heap.size≤l) (h:W.heap[l]? = some o) (h1:o.isCells = false) (h2:o.isWalk = false):DK w bp bx b x W (W.putObj l o') :=
 ⟨belowK_b hw W l o o' hl h h1 h2,fun q=>(World.putObj_heap_other (by omega)).trans q,fun q=>(World.putObj_heap_other (by omega)).trans q⟩
theorem DK.below {w:World} {bp bx b:Nat} {x:jI} {A B:World} (hw:w.heap.size≤A.heap.size) (h:Below A.heap.size A B):DK w bp bx b x A B:=⟨h.mono hw,fun q=>iT.IK q h,fun q=>iT.IK q h⟩
theorem DK.set {w:World} {bp bx b:Nat} {x:jI} {A B:World} (h:DK w bp bx b x A B) {p:Addr} (hp:w.heap.size≤p.block) (h1:bp≠p.block) (h2:bx≠p.block) (u:Value):DK w bp bx b x A (B.setCell p u):=⟨h.1.setCell hp u,fun q=>az (h.2.1 q) h1 u,fun q=>az (h.2.2 q) h2 u⟩
def mark (D_:Nat):Deferred:={ target:=.collected D_,args:=#[] }
def Marks (W:World) (B:Nat) (Ds:List Nat):Prop:=Ds.Nodup∧∀ D_ ∈ Ds,B≤D_∧W.heap[D_]? = some (.deferred (some []))
theorem Marks.nil (W:World) (B:Nat):Marks W B []:=⟨List.nodup_nil,fun D_ h=>by cases h⟩
theorem Marks.below {W W1:World} {B:Nat} {Ds:List Nat} (h:Marks W B Ds) (hb:Below W.heap.size W W1):Marks W1 B Ds :=
 ⟨h.1,fun D_ hD=>⟨(h.2 D_ hD).1,(hb.block D_ (Array.getElem?_eq_some_iff.1 (h.2 D_ hD).2).1).trans (h.2 D_ hD).2⟩⟩
theorem Marks.cons {W:World} {B D_:Nat} {Ds:List Nat} (h:Marks W B Ds) (hn:D_ ∉ Ds) (hB:B≤D_) (hD:W.heap[D_]? = some (.deferred (some []))):Marks W B (D_ :: Ds) :=
 ⟨List.nodup_cons.2 ⟨hn,h.1⟩,fun E hE=>by
  rcases List.mem_cons.1 hE with rfl|hE
  ·exact ⟨hB,hD⟩
  ·exact h.2 E hE⟩
theorem Marks.set {W:World} {B:Nat} {Ds:List Nat} (h:Marks W B Ds) {g i:Nat} {cs:Array Value} {t:TypeId} (hg:W.heap[g]? = some (.cells cs t (0,0))) (u:Value):Marks (W.setCell ⟨g,i,none⟩ u) B Ds :=
 ⟨h.1,fun D_ hD=>⟨(h.2 D_ hD).1,(Below.heap_setCell _ _ _ D_ (fun e=>by
  have h2:=(h.2 D_ hD).2
  rw [show D_ = g from e,hg] at h2
  cases h2)).trans (h.2 D_ hD).2⟩⟩
theorem MI {β:Type} (B B0:Nat) (Ds:List Nat) (h:∀ D_ ∈ Ds,D_ < B):OwnFrom B (fun (_:β) W=>Marks W B0 Ds):=fun s X Y row hs hg hr =>
 ⟨hs.1,fun D_ hD=>⟨(hs.2 D_ hD).1,(hg.block D_ (Array.getElem?_eq_some_iff.1 (hs.2 D_ hD).2).1 (fun e=>by have h1:=(hr D_ e.symm).1;have h2:=h D_ hD;omega)).trans (hs.2 D_ hD).2⟩⟩
theorem GG {P:Program} {F:Fence} {n:Nat} {fn:Func} {tmps:Array Value} {R:Ending→World→Prop} {B:Nat} (I:World→Prop) (hI:∀ W D_,I W→B≤D_→W.heap[D_]? = some (.deferred (some []))→I (W.putObj D_ (.deferred none)))
 (hend:∀ W,I W→LeavesInM F n P fn tmps R [] .returning W):∀ (Ds:List Nat) (W:World),Marks W B Ds→I W→LeavesInM F n P fn tmps R (Ds.map mark) .returning W
 |[],W,_,h=>hend W h
 |D_ :: Ds,W,hM,h=>by
  have hD:=hM.2 D_ List.mem_cons_self
  refine ⟨by simp,.inl ⟨D_,_,rfl,run_takeDeferred hD.2,?_⟩⟩
  refine GG I hI hend Ds _ ⟨(List.nodup_cons.1 hM.1).2,fun E hE=>?_⟩ (hI W D_ h hD.1 hD.2)
  have hE2:=hM.2 E (List.mem_cons_of_mem _ hE)
  have hne:E≠D_:=fun e=>(List.nodup_cons.1 hM.1).1 (e ▸ hE)
  exact ⟨hE2.1,(World.putObj_heap_other (fun e=>hne e)).trans hE2.2⟩
theorem QW {q l k c ll kk:Int} (h0:0≤q) (h1:q < ll) (h2:0≤l) (h3:l < kk) (h4:0≤c) (h5:c < k):0≤(q*kk+l)*k+c∧(q*kk+l)*k+c < ll*kk*k:=by
 have a0:0≤q*kk:=Int.mul_nonneg h0 (by omega)
 have a1:0≤(q*kk+l)*k:=Int.mul_nonneg (by omega) (by omega)
 have a2:(q+1)*kk≤ll*kk:=Int.mul_le_mul_of_nonneg_right (by omega) (by omega)
 rw [Int.add_mul,Int.one_mul] at a2
 have a3:(q*kk+l+1)*k≤ll*kk*k:=Int.mul_le_mul_of_nonneg_right (by omega) (by omega)
 rw [Int.add_mul,Int.one_mul] at a3
 omega
def j3 (l:List jI):jI:=(sD l).getD z31
theorem LV {l:List jI} {y:jI} (h:sD l = none):sD (l++[y]) = some y:=by rw [Eb,h];rfl
theorem LW {l:List jI} {y z:jI} (h:sD l = some z):sD (l++[y]) = some (vR z y):=by rw [Eb,h];rfl
theorem aaE (a c:jI) (w:World):Calls Try.prog 119 #[.agg #[.int .i64 a.f0.f0,.int .i64 a.f0.f1,.int .i64 a.f1.f0,.int .i64 a.f1.f1],.agg #[.int .i64 c.f0.f0,.int .i64 c.f0.f1,.int .i64 c.f1.f0,.int .i64 c.f1.f1]] w
 (vP (.agg #[.int .i64 (vR a c).f0.f0,.int .i64 (vR a c).f0.f1,.int .i64 (vR a c).f1.f0,.int .i64 (vR a c).f1.f1]) w) :=
 yx.calls _ _ _ _ _ _ _ _ _ _ _ _ w (by unfold yx.f vR;simp only [EP,Ah])
set_option maxRecDepth 100000 in
set_option maxHeartbeats 8000000 in
theorem aaF (b:Nat) (s:oH) (v:wW) (x:jI) (layer t u:Int) (w:World) (hT:ma w b s v) (hS:Ar s) (hx:Jd s x) (hcu:(s.currents.length:Int) = s.slots*s.layers*(s.nx*s.ny)) (hl0:0≤layer) (hl1:layer < s.layers) (ht0:0≤t) (ht1:t < u) (ht2:u≤s.slots*s.slot):
 Calls Try.prog 70 #[.pointer (some ⟨b,0,none⟩),.agg #[.int .i64 x.f0.f0,.int .i64 x.f0.f1,.int .i64 x.f1.f0,.int .i64 x.f1.f1],.int .i64 layer,.int .i64 t,.int .i64 u] w (vP (.agg #[.int .i64 (Mc s x layer t u).f0.f0,.int .i64 (Mc s x layer t u).f0.f1,.int .i64 (Mc s x layer t u).f1.f0,.int .i64 (Mc s x layer t u).f1.f1]) w):=by
 have vT:=Try.underlying31
 have hxy:=iV (show 0≤s.nx by have:=hS.nx;omega) hS.nx.2 (show 0≤s.ny by have:=hS.ny;omega) hS.ny.2
 have hss:=iV (show 0≤s.slots by have:=hS.slots;omega) hS.slots.2 (show 0≤s.slot by have:=hS.slot;omega) hS.slot.2
 have hsl:=hS.slot
 have hso:=hS.slots
 have hla:=hS.layers
 have hcl:s.currents.length≤10000:=by
  have h1:=iV (show 0≤s.slots by omega) hso.2 (show 0≤s.layers by omega) hla.2
  have h2:=iV h1.1 h1.2 hxy.1 hxy.2
  omega
 have HCU:=Lib.hid hcu
 clear hcu
 have hj0:=IG ht0 (show 1≤s.slot by omega)
 have hj1:=IG (show 0≤u - 1 by omega) (show 1≤s.slot by omega)
 have hj2:(u - 1) / s.slot < s.slots:=by
  refine Int.ediv_lt_of_lt_mul (by omega) ?_
  omega
 have e0:Int.tdiv t s.slot = t / s.slot:=Int.tdiv_eq_ediv_of_nonneg ht0
 have e1:Int.tdiv (u - 1) s.slot = (u - 1) / s.slot:=Int.tdiv_eq_ediv_of_nonneg (by omega)
 have hne:s.slot≠0:=by omega
 have hbq:(s.slot == 0) = false:=beq_eq_false_iff_ne.2 hne
 have HR:Hid (Mc s x layer t u = (sD (jk s x layer (t / s.slot) ((u - 1) / s.slot+1 - t / s.slot).toNat)).getD z31):=Lib.hid rfl
 generalize t / s.slot = j0 at*
 generalize (u - 1) / s.slot = j1 at*
 have hT0:=hT
 obtain ⟨A7,c7,A8,c8,mT,_⟩:=hT0
 refine (callsIn_wide (n:=6)).1 ?_
 refine callsIn_of_wp_marks Try.func70 rfl trivial ?_ rfl
 simp only [Try.ntmps70,List.size_toArray,List.length_cons,List.length_nil,Nat.reduceAdd,Nat.reduceSub,Array.replicate_succ,Array.replicate_zero,List.push_toArray,List.append_toArray,List.nil_append,List.cons_append]
 gi_wp2_with fail
 have Bn:=aU mT
 have m5:iT (((w.alloc (.cells #[.pointer (some ⟨b,0,none⟩)] 104)).alloc (.cells #[.int .i64 x.f0.f0,.int .i64 x.f0.f1,.int .i64 x.f1.f0,.int .i64 x.f1.f1] 31)).alloc (.cells #[.int .i64 0,.int .i64 0,.int .i64 0,.int .i64 0] 31)) (w.heap.size) #[.pointer (some ⟨b,0,none⟩)] 104:=(af (af (by have h_:=fK w (.cells #[.pointer (some ⟨b,0,none⟩)] 104);first|exact h_|(simp only [World.size_alloc] at h_;exact h_)) _) _)
 have m6:iT (((w.alloc (.cells #[.pointer (some ⟨b,0,none⟩)] 104)).alloc (.cells #[.int .i64 x.f0.f0,.int .i64 x.f0.f1,.int .i64 x.f1.f0,.int .i64 x.f1.f1] 31)).alloc (.cells #[.int .i64 0,.int .i64 0,.int .i64 0,.int .i64 0] 31)) (w.heap.size+1) #[.int .i64 x.f0.f0,.int .i64 x.f0.f1,.int .i64 x.f1.f0,.int .i64 x.f1.f1] 31:=(af (by have h_:=fK (w.alloc (.cells #[.pointer (some ⟨b,0,none⟩)] 104)) (.cells #[.int .i64 x.f0.f0,.int .i64 x.f0.f1,.int .i64 x.f1.f0,.int .i64 x.f1.f1] 31);first|exact h_|(simp only [World.size_alloc] at h_;exact h_)) _)
 have m10:iT (((w.alloc (.cells #[.pointer (some ⟨b,0,none⟩)] 104)).alloc (.cells #[.int .i64 x.f0.f0,.int .i64 x.f0.f1,.int .i64 x.f1.f0,.int .i64 x.f1.f1] 31)).alloc (.cells #[.int .i64 0,.int .i64 0,.int .i64 0,.int .i64 0] 31)) (w.heap.size+1+1) #[.int .i64 0,.int .i64 0,.int .i64 0,.int .i64 0] 31:=(by have h_:=fK ((w.alloc (.cells #[.pointer (some ⟨b,0,none⟩)] 104)).alloc (.cells #[.int .i64 x.f0.f0,.int .i64 x.f0.f1,.int .i64 x.f1.f0,.int .i64 x.f1.f1] 31)) (.cells #[.int .i64 0,.int .i64 0,.int .i64 0,.int .i64 0] 31);first|exact h_|(simp only [World.size_alloc] at h_;exact h_))
 replace mT:iT (((w.alloc (.cells #[.pointer (some ⟨b,0,none⟩)] 104)).alloc (.cells #[.int .i64 x.f0.f0,.int .i64 x.f0.f1,.int .i64 x.f1.f0,.int .i64 x.f1.f1] 31)).alloc (.cells #[.int .i64 0,.int .i64 0,.int .i64 0,.int .i64 0] 31)) b #[.int .i64 s.nx,.int .i64 s.ny,.int .i64 s.cell,.int .i64 s.slot,.int .i64 s.slots,.int .i64 s.layers,.int .i64 s.most,.slice A7 s.shores.length c7,.slice A8 s.currents.length c8,.int .i64 v.speed,.int .i64 v.dive,.int .i64 v.use.f0,.int .i64 v.use.f1,.int .i64 v.drift.f0,.int .i64 v.drift.f1,.int .i64 v.reserve] 110:=(af (af (af mT _) _) _)
 have mB:Below w.heap.size w (((w.alloc (.cells #[.pointer (some ⟨b,0,none⟩)] 104)).alloc (.cells #[.int .i64 x.f0.f0,.int .i64 x.f0.f1,.int .i64 x.f1.f0,.int .i64 x.f1.f1] 31)).alloc (.cells #[.int .i64 0,.int .i64 0,.int .i64 0,.int .i64 0] 31)):=(au (au (au (Below.refl w.heap.size w) _) _) _)
 have qi:w.heap.size≤w.heap.size:=Nat.le_refl _
 generalize zx:(((w.alloc (.cells #[.pointer (some ⟨b,0,none⟩)] 104)).alloc (.cells #[.int .i64 x.f0.f0,.int .i64 x.f0.f1,.int .i64 x.f1.f0,.int .i64 x.f1.f1] 31)).alloc (.cells #[.int .i64 0,.int .i64 0,.int .i64 0,.int .i64 0] 31)) = W1 at mT m5 m6 m10 mB ⊢
 clear zx
 generalize hg5:w.heap.size = g5 at m5 m6 m10 ⊢
 have Qt:b≠g5:=by omega
 have aat:g5≠b:=Qt.symm
 have hG5:w.heap.size≤g5:=by omega
 generalize hg6:g5+1 = g6 at m6 m10 ⊢
 have IL:b≠g6:=by omega
 have Bq:g5≠g6:=by omega
 have TT:g6≠b:=IL.symm
 have Qv:g6≠g5:=Bq.symm
 have Rv:w.heap.size≤g6:=by omega
 generalize Qw:g6+1 = g10 at m10 ⊢
 have KQ:b≠g10:=by omega
 have mU:g5≠g10:=by omega
 have mV:g6≠g10:=by omega
 have XL:g10≠b:=KQ.symm
 have KR:g10≠g5:=mU.symm
 have KS:g10≠g6:=mV.symm
 have jl:w.heap.size≤g10:=by omega
 clear qi Bn
 try clear Qw
 try clear hg6
 try clear hg5
 have DJ:w.heap.size≤W1.heap.size:=mB.size
 refine IE (wpIn_wide.2 ?_)
 replace mT:=ai mT
 replace m5:=ai m5
 replace m6:=ai m6
 replace m10:=ai m10
 replace mB:=av mB
 have wq:wrap64 (s.nx*s.ny) = s.nx*s.ny:=by unfold wrap64;omega
 refine qg (n:=12) (S:=fun w'=>w'.cell? ⟨g5,0,none⟩ = some (.pointer (some ⟨b,0,none⟩))∧w'.cell? ⟨b,0,none⟩ = some (.int .i64 s.nx)∧w'.cell? ⟨b,1,none⟩ = some (.int .i64 s.ny)) (ds:=[]) #[false,false,false,false,false,false,false,false,false,false,false,false] (by kernel_rfl) rfl rfl ⟨((aa m5 0).trans rfl),((aa mT 0).trans rfl),((aa mT 1).trans rfl)⟩ (fun hHeld=>?_)
 generalize hWd:World.drew _ = Wx at mB mT m5 m6 m10 hHeld ⊢
 clear hWd
 refine gB (i:=0) (N:=some 17) (v:=?_) (a':=?_) #[true,false,false,false,false,false,false,false,false,false,false,false] rfl rfl (by kernel_rfl) (fun _ _ _ h=>h) (Or.inl ⟨by rfl,?_⟩) hHeld ?_ ?_
 rotate_left
 ·rintro w' ⟨s0,s1,s2⟩
  go_simp
  with_reducible rfl
 rotate_left
 ·simp only [Act.put,List.setIfInBounds_toArray,List.set_cons_zero,List.set_cons_succ,aZ,bf]
  rfl
 refine bU (i:=1) (N:=some 18) (v:=?_) (a':=?_) #[true,true,false,false,false,false,false,false,false,false,false,false] rfl rfl (by kernel_rfl) (fun _ _ _ h=>h) (Or.inl ⟨by rfl,?_⟩) ?_ ?_
 rotate_left
 ·intro w'
  go_simp
  with_reducible rfl
 rotate_left
 ·simp only [Act.put,List.setIfInBounds_toArray,List.set_cons_zero,List.set_cons_succ,aZ,bf]
  rfl
 refine bU (i:=2) (N:=some 19) (v:=?_) (a':=?_) #[true,true,true,false,false,false,false,false,false,false,false,false] rfl rfl (by kernel_rfl) (fun _ _ _ h=>h) (Or.inl ⟨by rfl,?_⟩) ?_ ?_
 rotate_left
 ·intro w'
  go_simp
  with_reducible rfl
 rotate_left
 ·simp only [Act.put,List.setIfInBounds_toArray,List.set_cons_zero,List.set_cons_succ,aZ,bf]
  rfl
 refine bU (i:=3) (N:=some 20) (v:=?_) (a':=?_) #[true,true,true,true,false,false,false,false,false,false,false,false] rfl rfl (by kernel_rfl) (fun _ _ _ h=>h) (Or.inl ⟨by rfl,?_⟩) ?_ ?_
 rotate_left
 ·intro w'
  go_simp
  with_reducible rfl
 rotate_left
 ·simp only [Act.put,List.setIfInBounds_toArray,List.set_cons_zero,List.set_cons_succ,aZ,bf]
  rfl
 refine gB (i:=4) (N:=some 21) (v:=?_) (a':=?_) #[true,true,true,true,true,false,false,false,false,false,false,false] rfl rfl (by kernel_rfl) (fun _ _ _ h=>h) (Or.inl ⟨by rfl,?_⟩) hHeld ?_ ?_
 rotate_left
 ·rintro w' ⟨s0,s1,s2⟩
  go_simp
  with_reducible rfl
 rotate_left
 ·simp only [Act.put,List.setIfInBounds_toArray,List.set_cons_zero,List.set_cons_succ,aZ,bf]
  rfl
 refine gB (i:=5) (N:=some 22) (v:=?_) (a':=?_) #[true,true,true,true,true,true,false,false,false,false,false,false] rfl rfl (by kernel_rfl) (fun _ _ _ h=>h) (Or.inl ⟨by rfl,?_⟩) hHeld ?_ ?_
 rotate_left
 ·rintro w' ⟨s0,s1,s2⟩
  go_simp
  with_reducible rfl
 rotate_left
 ·simp only [Act.put,List.setIfInBounds_toArray,List.set_cons_zero,List.set_cons_succ,aZ,bf]
  rfl
 refine bU (i:=6) (N:=some 23) (v:=?_) (a':=?_) #[true,true,true,true,true,true,true,false,false,false,false,false] rfl rfl (by kernel_rfl) (fun _ _ _ h=>h) (Or.inl ⟨by rfl,?_⟩) ?_ ?_
 rotate_left
 ·intro w'
  go_simp
  with_reducible rfl
 rotate_left
 ·simp only [Act.put,List.setIfInBounds_toArray,List.set_cons_zero,List.set_cons_succ,aZ,bf]
  rfl
 refine bU (i:=7) (N:=some 24) (v:=?_) (a':=?_) #[true,true,true,true,true,true,true,true,false,false,false,false] rfl rfl (by kernel_rfl) (fun _ _ _ h=>h) (Or.inl ⟨by rfl,?_⟩) ?_ ?_
 rotate_left
 ·intro w'
  go_simp
  with_reducible rfl
 rotate_left
 ·simp only [Act.put,List.setIfInBounds_toArray,List.set_cons_zero,List.set_cons_succ,aZ,bf]
  rfl
 refine bU (i:=8) (N:=some 25) (v:=?_) (a':=?_) #[true,true,true,true,true,true,true,true,true,false,false,false] rfl rfl (by kernel_rfl) (fun _ _ _ h=>h) (Or.inl ⟨by rfl,?_⟩) ?_ ?_
 rotate_left
 ·intro w'
  go_simp
  with_reducible rfl
 rotate_left
 ·simp only [Act.put,List.setIfInBounds_toArray,List.set_cons_zero,List.set_cons_succ,aZ,bf]
  rfl
 refine gB (i:=9) (N:=some 26) (v:=?_) (a':=?_) #[true,true,true,true,true,true,true,true,true,true,false,false] rfl rfl (by kernel_rfl) (fun _ _ _ h=>h) (Or.inl ⟨by rfl,?_⟩) hHeld ?_ ?_
 rotate_left
 ·rintro w' ⟨s0,s1,s2⟩
  go_simp
  with_reducible rfl
 rotate_left
 ·simp only [Act.put,List.setIfInBounds_toArray,List.set_cons_zero,List.set_cons_succ,aZ,bf]
  rfl
 refine bU (i:=10) (N:=some 27) (v:=?_) (a':=?_) #[true,true,true,true,true,true,true,true,true,true,true,false] rfl rfl (by kernel_rfl) (fun _ _ _ h=>h) (Or.inl ⟨by rfl,?_⟩) ?_ ?_
 rotate_left
 ·intro w'
  go_simp
  with_reducible rfl
 rotate_left
 ·simp only [Act.put,List.setIfInBounds_toArray,List.set_cons_zero,List.set_cons_succ,aZ,bf]
  rfl
 refine bU (i:=11) (N:=some 11) (v:=?_) (a':=?_) #[true,true,true,true,true,true,true,true,true,true,true,true] rfl rfl (by kernel_rfl) (fun _ _ _ h=>h) (Or.inl ⟨by rfl,?_⟩) ?_ ?_
 rotate_left
 ·intro w'
  go_simp
  with_reducible rfl
 rotate_left
 ·simp only [Act.put,List.setIfInBounds_toArray,List.set_cons_zero,List.set_cons_succ,aZ,bf]
  rfl
 refine tT (by kernel_rfl) ?_
 clear wq hHeld
 refine Ay ?_
 have GA:=(aa m5 0).trans rfl
 have cT3:=(aa mT 3).trans rfl
 have cq:∀ o_,(Wx.alloc o_).cell? ⟨g5,0,none⟩ = some (.pointer (some ⟨b,0,none⟩)):=fun o_=>(aa (af m5 o_) 0).trans rfl
 have cq3:∀ o_,(Wx.alloc o_).cell? ⟨b,3,none⟩ = some (.int .i64 s.slot):=fun o_=>(aa (af mT o_) 3).trans rfl
 gi_wp2_with fail
 clear cq cq3 GA cT3
 have Rq:w.heap.size≤Wx.heap.size:=mB.size
 have Bn:=aU mT
 have LJ:=aU m5
 have Qx:=aU m6
 have LX:=aU m10
 have m12:iT (Wx.alloc (.cells #[.bool true] 4)) (Wx.heap.size) #[.bool true] 4:=(by have h_:=fK Wx (.cells #[.bool true] 4);first|exact h_|(simp only [World.size_alloc] at h_;exact h_))
 replace mT:iT (Wx.alloc (.cells #[.bool true] 4)) b #[.int .i64 s.nx,.int .i64 s.ny,.int .i64 s.cell,.int .i64 s.slot,.int .i64 s.slots,.int .i64 s.layers,.int .i64 s.most,.slice A7 s.shores.length c7,.slice A8 s.currents.length c8,.int .i64 v.speed,.int .i64 v.dive,.int .i64 v.use.f0,.int .i64 v.use.f1,.int .i64 v.drift.f0,.int .i64 v.drift.f1,.int .i64 v.reserve] 110:=(af mT _)
 replace m5:iT (Wx.alloc (.cells #[.bool true] 4)) g5 #[.pointer (some ⟨b,0,none⟩)] 104:=(af m5 _)
 replace m6:iT (Wx.alloc (.cells #[.bool true] 4)) g6 #[.int .i64 x.f0.f0,.int .i64 x.f0.f1,.int .i64 x.f1.f0,.int .i64 x.f1.f1] 31:=(af m6 _)
 replace m10:iT (Wx.alloc (.cells #[.bool true] 4)) g10 #[.int .i64 0,.int .i64 0,.int .i64 0,.int .i64 0] 31:=(af m10 _)
 replace mB:Below w.heap.size w (Wx.alloc (.cells #[.bool true] 4)):=(au mB _)
 have qi:w.heap.size≤Wx.heap.size:=Rq
 generalize zx:(Wx.alloc (.cells #[.bool true] 4)) = W2 at mT m5 m6 m10 m12 mB ⊢
 clear zx
 generalize aid:Wx.heap.size = g12 at m12 ⊢
 have uh:b≠g12:=by omega
 have wE:g5≠g12:=by omega
 have nM:g6≠g12:=by omega
 have j5:g10≠g12:=by omega
 have afo:g12≠b:=uh.symm
 have XM:g12≠g5:=wE.symm
 have XN:g12≠g6:=nM.symm
 have jr:g12≠g10:=j5.symm
 have GH:w.heap.size≤g12:=by omega
 clear qi Bn LJ Qx LX
 try clear aid
 have zy:w.heap.size≤W2.heap.size:=mB.size
 refine wpIn_loop (fun a W=>∃ (q:Nat) (j:Int) (Ds:List Nat) (u_:Nat→Value),a = { tmps:=#[(u_ 0),(u_ 1),.int .i64 layer,(u_ 3),.int .i64 u,.pointer (some ⟨g5,0,none⟩),.pointer (some ⟨g6,0,none⟩),(u_ 7),(u_ 8),(u_ 9),.pointer (some ⟨g10,0,none⟩),.int .i64 (s.nx*s.ny),.pointer (some ⟨g12,0,none⟩),.int .i64 j,(u_ 14),(u_ 15),(u_ 16),(u_ 17),(u_ 18),(u_ 19),(u_ 20),(u_ 21),(u_ 22),(u_ 23),(u_ 24),(u_ 25),(u_ 26),(u_ 27),(u_ 28),(u_ 29),(u_ 30),(u_ 31),(u_ 32),(u_ 33),(u_ 34),(u_ 35),(u_ 36),(u_ 37),(u_ 38),(u_ 39),(u_ 40),(u_ 41),(u_ 42),(u_ 43),(u_ 44),(u_ 45),(u_ 46),(u_ 47),(u_ 48),(u_ 49),(u_ 50),(u_ 51),(u_ 52),(u_ 53),(u_ 54),(u_ 55),(u_ 56),(u_ 57),(u_ 58),(u_ 59),(u_ 60),(u_ 61),(u_ 62),(u_ 63),(u_ 64),(u_ 65),(u_ 66),(u_ 67),(u_ 68),(u_ 69),(u_ 70),(u_ 71),(u_ 72),(u_ 73),(u_ 74),(u_ 75),(u_ 76),(u_ 77),(u_ 78),(u_ 79),(u_ 80),(u_ 81),(u_ 82),(u_ 83),(u_ 84),(u_ 85),(u_ 86),(u_ 87),(u_ 88),(u_ 89),(u_ 90),(u_ 91)],defers:=Ds.map mark }∧Hid (j = j0+(q:Int))∧q≤(j1+1 - j0).toNat∧Marks W w.heap.size Ds∧iT W g5 #[.pointer (some ⟨b,0,none⟩)] 104∧iT W g6 #[.int .i64 x.f0.f0,.int .i64 x.f0.f1,.int .i64 x.f1.f0,.int .i64 x.f1.f1] 31∧iT W g10 #[.int .i64 (j3 (jk s x layer j0 q)).f0.f0,.int .i64 (j3 (jk s x layer j0 q)).f0.f1,.int .i64 (j3 (jk s x layer j0 q)).f1.f0,.int .i64 (j3 (jk s x layer j0 q)).f1.f1] 31∧iT W g12 #[.bool (sD (jk s x layer j0 q)).isNone] 4∧Below w.heap.size w W) (fun a _=>(j1+1 - intOf (a.tmps.getD 13 undef)).toNat) ⟨0,j0,[],(fun k=>(#[.pointer (some ⟨b,0,none⟩),.agg #[.int .i64 x.f0.f0,.int .i64 x.f0.f1,.int .i64 x.f1.f0,.int .i64 x.f1.f1],.int .i64 layer,.int .i64 t,.int .i64 u,.pointer (some ⟨g5,0,none⟩),.pointer (some ⟨g6,0,none⟩),undef,undef,undef,.pointer (some ⟨g10,0,none⟩),.int .i64 (s.nx*s.ny),.pointer (some ⟨g12,0,none⟩),.int .i64 j0,undef,undef,undef,.pointer (some ⟨b,0,none⟩),.pointer (some ⟨b,0,none⟩),.pointer (some ⟨b,0,none⟩),.pointer (some ⟨b,0,none⟩),.int .i64 s.nx,.pointer (some ⟨b,0,none⟩),.pointer (some ⟨b,0,none⟩),.pointer (some ⟨b,0,none⟩),.pointer (some ⟨b,1,none⟩),.int .i64 s.ny,.int .i64 (wrap64 (s.nx*s.ny)),.int .i64 t,.pointer (some ⟨b,0,none⟩),.pointer (some ⟨b,0,none⟩),.pointer (some ⟨b,0,none⟩),.pointer (some ⟨b,3,none⟩),.int .i64 s.slot,.int .i64 j0,undef,undef,undef,undef,undef,undef,undef,undef,undef,undef,undef,undef,undef,undef,undef,undef,undef,undef,undef,undef,undef,undef,undef,undef,undef,undef,undef,undef,undef,undef,undef,undef,undef,undef,undef,undef,undef,undef,undef,undef,undef,undef,undef,undef,undef,undef,undef,undef,undef,undef,undef,undef,undef,undef,undef,undef,undef]:Array Value).getD k undef),rfl,Lib.hid (by omega),Nat.zero_le _,Marks.nil _ _,m5,m6,m10,m12,mB⟩ ?_
 clear m5 m6 m10 m12 mB mT
 rintro a_ W ⟨q,j,Ds,u_,rfl,HJ,hq,hM,m5,m6,m10,m12,mB⟩
 have aBG:w.heap.size≤W.heap.size:=mB.size
 obtain ⟨A7,c7,A8,c8,mT,_,_,hc8,R4⟩:=hT.below mB
 have cT3:=(aa mT 3).trans rfl
 have cT5:=(aa mT 5).trans rfl
 have GA:=(aa m5 0).trans rfl
 have IM:∀ o_,(W.alloc o_).cell? ⟨g6,0,none⟩ = some (.int .i64 x.f0.f0):=fun o_=>(aa (af m6 o_) 0).trans rfl
 have IP:∀ o_,(W.alloc o_).cell? ⟨g6,1,none⟩ = some (.int .i64 x.f0.f1):=fun o_=>(aa (af m6 o_) 1).trans rfl
 have IQ:∀ o_,(W.alloc o_).cell? ⟨g6,2,none⟩ = some (.int .i64 x.f1.f0):=fun o_=>(aa (af m6 o_) 2).trans rfl
 have IU:∀ o_,(W.alloc o_).cell? ⟨g6,3,none⟩ = some (.int .i64 x.f1.f1):=fun o_=>(aa (af m6 o_) 3).trans rfl
 have II:∀ o_,(W.alloc o_).cell? ⟨g5,0,none⟩ = some (.pointer (some ⟨b,0,none⟩)):=fun o_=>(aa (af m5 o_) 0).trans rfl
 have hjj:j0≤j:=by have:=HJ.out;omega
 by_cases hlt:j≤j1
 case neg =>
  have hqe:q = (j1+1 - j0).toNat:=by have:=HJ.out;omega
  have HQ:=Lib.hid hqe
  clear hqe II IM IP IQ IU
  have HRR:=HR.out
  rw [← HQ.out] at HRR
  have HR2:=Lib.hid HRR
  clear HRR
  generalize (jk s x layer j0 q) = L at*
  have vF:=(aa m10 0).trans rfl
  have zC:=ae m10 0
  have vG:=(aa m10 1).trans rfl
  have zD:=ae m10 1
  have vH:=(aa m10 2).trans rfl
  have zF:=ae m10 2
  have vI:=(aa m10 3).trans rfl
  have zG:=ae m10 3
  skip
  gi_wp2
  exact GG (fun X=>iT X g10 #[.int .i64 (j3 L).f0.f0,.int .i64 (j3 L).f0.f1,.int .i64 (j3 L).f1.f0,.int .i64 (j3 L).f1.f1] 31∧Below w.heap.size w X) (fun X D_ h hB hD=>⟨(World.putObj_heap_other (fun e=>by have h1:=h.1;unfold iT at h1;rw [e,hD] at h1;cases h1)).trans h.1,h.2.trans (belowK_b (w:=w) (Nat.le_refl _) X D_ _ _ hB hD rfl rfl)⟩) (fun X h=>⟨_,results_cell_row rfl _ _ g10 31 #[.int .i64 (j3 L).f0.f0,.int .i64 (j3 L).f0.f1,.int .i64 (j3 L).f1.f0,.int .i64 (j3 L).f1.f1] (0,0) _ rfl h.1 Try.underlying31 rfl (by kernel_rfl),by rw [HR2.out];rfl,h.2⟩) Ds _ (Marks.set (Marks.set (Marks.set (Marks.set hM m10 (i:=0) _) (aW m10 0 (.int .i64 (j3 L).f0.f0) rfl) (i:=1) _) (aW (aW m10 0 (.int .i64 (j3 L).f0.f0) rfl) 1 (.int .i64 (j3 L).f0.f1) rfl) (i:=2) _) (aW (aW (aW m10 0 (.int .i64 (j3 L).f0.f0) rfl) 1 (.int .i64 (j3 L).f0.f1) rfl) 2 (.int .i64 (j3 L).f1.f0) rfl) (i:=3) _) ⟨(aW (aW (aW (aW m10 0 (.int .i64 (j3 L).f0.f0) rfl) 1 (.int .i64 (j3 L).f0.f1) rfl) 2 (.int .i64 (j3 L).f1.f0) rfl) 3 (.int .i64 (j3 L).f1.f1) rfl),(Below.setCell (p:=⟨g10,3,none⟩) (Below.setCell (p:=⟨g10,2,none⟩) (Below.setCell (p:=⟨g10,1,none⟩) (Below.setCell (p:=⟨g10,0,none⟩) mB jl _) jl _) jl _) jl _)⟩
 case pos =>
  skip
  have hq2:q+1≤(j1+1 - j0).toNat:=by have:=HJ.out;omega
  have HJ2:Hid (j+1 = j0+((q+1:Nat):Int)):=Lib.hid (by have:=HJ.out;omega)
  have p1:=iV (show 0≤j by omega) (show j≤15 by omega) (show 0≤s.layers by omega) hla.2
  have p2:=iV (show 0≤j*s.layers+layer by omega) (show j*s.layers+layer≤50 by omega) hxy.1 hxy.2
  gi_wp2_with fail
  refine ⟨trivial,(callsIn_wide.2 (Je _ _ _)).mono ?_⟩
  rintro e W_ ⟨rfl,rfl⟩
  gi_wp2_with fail
  clear cT3 cT5 GA II IM IP IQ IU
  have aFL:=hS.nx
  have hM0:Marks (((W.alloc (.cells #[.int .i64 ((j*s.layers+layer)*(s.nx*s.ny))] 3)).alloc (.cells #[.pointer (some ⟨b,0,none⟩)] 104)).alloc (.cells #[.int .i64 x.f0.f0,.int .i64 x.f0.f1,.int .i64 x.f1.f0,.int .i64 x.f1.f1] 31)) w.heap.size Ds:=hM.below (au (au (au (Below.refl _ W) _) _) _)
  have Bn:=aU mT
  have LJ:=aU m5
  have Qx:=aU m6
  have LX:=aU m10
  have aaH:=aU m12
  have m14:iT (((W.alloc (.cells #[.int .i64 ((j*s.layers+layer)*(s.nx*s.ny))] 3)).alloc (.cells #[.pointer (some ⟨b,0,none⟩)] 104)).alloc (.cells #[.int .i64 x.f0.f0,.int .i64 x.f0.f1,.int .i64 x.f1.f0,.int .i64 x.f1.f1] 31)) (W.heap.size) #[.int .i64 ((j*s.layers+layer)*(s.nx*s.ny))] 3:=(af (af (by have h_:=fK W (.cells #[.int .i64 ((j*s.layers+layer)*(s.nx*s.ny))] 3);first|exact h_|(simp only [World.size_alloc] at h_;exact h_)) _) _)
  have mP:iT (((W.alloc (.cells #[.int .i64 ((j*s.layers+layer)*(s.nx*s.ny))] 3)).alloc (.cells #[.pointer (some ⟨b,0,none⟩)] 104)).alloc (.cells #[.int .i64 x.f0.f0,.int .i64 x.f0.f1,.int .i64 x.f1.f0,.int .i64 x.f1.f1] 31)) (W.heap.size+1) #[.pointer (some ⟨b,0,none⟩)] 104:=(af (by have h_:=fK (W.alloc (.cells #[.int .i64 ((j*s.layers+layer)*(s.nx*s.ny))] 3)) (.cells #[.pointer (some ⟨b,0,none⟩)] 104);first|exact h_|(simp only [World.size_alloc] at h_;exact h_)) _)
  have mX:iT (((W.alloc (.cells #[.int .i64 ((j*s.layers+layer)*(s.nx*s.ny))] 3)).alloc (.cells #[.pointer (some ⟨b,0,none⟩)] 104)).alloc (.cells #[.int .i64 x.f0.f0,.int .i64 x.f0.f1,.int .i64 x.f1.f0,.int .i64 x.f1.f1] 31)) (W.heap.size+1+1) #[.int .i64 x.f0.f0,.int .i64 x.f0.f1,.int .i64 x.f1.f0,.int .i64 x.f1.f1] 31:=(by have h_:=fK ((W.alloc (.cells #[.int .i64 ((j*s.layers+layer)*(s.nx*s.ny))] 3)).alloc (.cells #[.pointer (some ⟨b,0,none⟩)] 104)) (.cells #[.int .i64 x.f0.f0,.int .i64 x.f0.f1,.int .i64 x.f1.f0,.int .i64 x.f1.f1] 31);first|exact h_|(simp only [World.size_alloc] at h_;exact h_))
  replace mT:iT (((W.alloc (.cells #[.int .i64 ((j*s.layers+layer)*(s.nx*s.ny))] 3)).alloc (.cells #[.pointer (some ⟨b,0,none⟩)] 104)).alloc (.cells #[.int .i64 x.f0.f0,.int .i64 x.f0.f1,.int .i64 x.f1.f0,.int .i64 x.f1.f1] 31)) b #[.int .i64 s.nx,.int .i64 s.ny,.int .i64 s.cell,.int .i64 s.slot,.int .i64 s.slots,.int .i64 s.layers,.int .i64 s.most,.slice A7 s.shores.length c7,.slice A8 s.currents.length c8,.int .i64 v.speed,.int .i64 v.dive,.int .i64 v.use.f0,.int .i64 v.use.f1,.int .i64 v.drift.f0,.int .i64 v.drift.f1,.int .i64 v.reserve] 110:=(af (af (af mT _) _) _)
  replace m5:iT (((W.alloc (.cells #[.int .i64 ((j*s.layers+layer)*(s.nx*s.ny))] 3)).alloc (.cells #[.pointer (some ⟨b,0,none⟩)] 104)).alloc (.cells #[.int .i64 x.f0.f0,.int .i64 x.f0.f1,.int .i64 x.f1.f0,.int .i64 x.f1.f1] 31)) g5 #[.pointer (some ⟨b,0,none⟩)] 104:=(af (af (af m5 _) _) _)
  replace m6:iT (((W.alloc (.cells #[.int .i64 ((j*s.layers+layer)*(s.nx*s.ny))] 3)).alloc (.cells #[.pointer (some ⟨b,0,none⟩)] 104)).alloc (.cells #[.int .i64 x.f0.f0,.int .i64 x.f0.f1,.int .i64 x.f1.f0,.int .i64 x.f1.f1] 31)) g6 #[.int .i64 x.f0.f0,.int .i64 x.f0.f1,.int .i64 x.f1.f0,.int .i64 x.f1.f1] 31:=(af (af (af m6 _) _) _)
  replace m10:iT (((W.alloc (.cells #[.int .i64 ((j*s.layers+layer)*(s.nx*s.ny))] 3)).alloc (.cells #[.pointer (some ⟨b,0,none⟩)] 104)).alloc (.cells #[.int .i64 x.f0.f0,.int .i64 x.f0.f1,.int .i64 x.f1.f0,.int .i64 x.f1.f1] 31)) g10 #[.int .i64 (j3 (jk s x layer j0 q)).f0.f0,.int .i64 (j3 (jk s x layer j0 q)).f0.f1,.int .i64 (j3 (jk s x layer j0 q)).f1.f0,.int .i64 (j3 (jk s x layer j0 q)).f1.f1] 31:=(af (af (af m10 _) _) _)
  replace m12:iT (((W.alloc (.cells #[.int .i64 ((j*s.layers+layer)*(s.nx*s.ny))] 3)).alloc (.cells #[.pointer (some ⟨b,0,none⟩)] 104)).alloc (.cells #[.int .i64 x.f0.f0,.int .i64 x.f0.f1,.int .i64 x.f1.f0,.int .i64 x.f1.f1] 31)) g12 #[.bool (sD (jk s x layer j0 q)).isNone] 4:=(af (af (af m12 _) _) _)
  replace mB:Below w.heap.size w (((W.alloc (.cells #[.int .i64 ((j*s.layers+layer)*(s.nx*s.ny))] 3)).alloc (.cells #[.pointer (some ⟨b,0,none⟩)] 104)).alloc (.cells #[.int .i64 x.f0.f0,.int .i64 x.f0.f1,.int .i64 x.f1.f0,.int .i64 x.f1.f1] 31)):=(au (au (au mB _) _) _)
  have qi:w.heap.size≤W.heap.size:=aBG
  generalize zx:(((W.alloc (.cells #[.int .i64 ((j*s.layers+layer)*(s.nx*s.ny))] 3)).alloc (.cells #[.pointer (some ⟨b,0,none⟩)] 104)).alloc (.cells #[.int .i64 x.f0.f0,.int .i64 x.f0.f1,.int .i64 x.f1.f0,.int .i64 x.f1.f1] 31)) = W0 at mT m5 m6 m10 m12 m14 mP mX mB hM0 ⊢
  clear zx
  generalize aBH:W.heap.size = g14 at m14 mP mX ⊢
  have XO:b≠g14:=by omega
  have XP:g5≠g14:=by omega
  have XQ:g6≠g14:=by omega
  have Rw:g10≠g14:=by omega
  have Rx:g12≠g14:=by omega
  have afp:g14≠b:=XO.symm
  have afq:g14≠g5:=XP.symm
  have afr:g14≠g6:=XQ.symm
  have qa:g14≠g10:=Rw.symm
  have zH:g14≠g12:=Rx.symm
  have aFM:w.heap.size≤g14:=by omega
  generalize hgP:g14+1 = gP at mP mX ⊢
  have aaI:b≠gP:=by omega
  have aaJ:g5≠gP:=by omega
  have aaK:g6≠gP:=by omega
  have XR:g10≠gP:=by omega
  have XT:g12≠gP:=by omega
  have XU:g14≠gP:=by omega
  have aie:gP≠b:=aaI.symm
  have aif:gP≠g5:=aaJ.symm
  have aih:gP≠g6:=aaK.symm
  have rR:gP≠g10:=XR.symm
  have Dp:gP≠g12:=XT.symm
  have afs:gP≠g14:=XU.symm
  have hGP:w.heap.size≤gP:=by omega
  generalize hgX:gP+1 = gX at mX ⊢
  have aaL:b≠gX:=by omega
  have aaM:g5≠gX:=by omega
  have aaN:g6≠gX:=by omega
  have XV:g10≠gX:=by omega
  have XW:g12≠gX:=by omega
  have XX:g14≠gX:=by omega
  have Qu:gP≠gX:=by omega
  have aii:gX≠b:=aaL.symm
  have aij:gX≠g5:=aaM.symm
  have aik:gX≠g6:=aaN.symm
  have rT:gX≠g10:=XV.symm
  have Dq:gX≠g12:=XW.symm
  have aft:gX≠g14:=XX.symm
  have aaD:gX≠gP:=Qu.symm
  have hGX:w.heap.size≤gX:=by omega
  clear qi Bn LJ Qx LX aaH
  try clear hgX
  try clear hgP
  try clear aBH
  have Ns:w.heap.size≤W0.heap.size:=mB.size
  have hDs:∀ D_ ∈ Ds,D_ < W0.heap.size:=fun D_ h=>(Array.getElem?_eq_some_iff.1 (hM0.2 D_ h).2).1
  have HN:Hid (g5≠g10∧g5≠g12∧g6≠g10∧g6≠g12∧g14≠g10∧g14≠g12∧g10≠g12∧g12≠g10∧gP≠g10∧gX≠g10∧gP≠g12∧gX≠g12):=Lib.hid ⟨mU,wE,mV,nM,qa,zH,j5,jr,rR,rT,Dp,Dq⟩
  try clear Qt
  try clear IL
  try clear KQ
  try clear uh
  try clear XO
  try clear aaI
  try clear aaL
  try clear aat
  try clear Bq
  try clear mU
  try clear wE
  try clear XP
  try clear aaJ
  try clear aaM
  try clear TT
  try clear Qv
  try clear mV
  try clear nM
  try clear XQ
  try clear aaK
  try clear aaN
  try clear XL
  try clear KR
  try clear KS
  try clear j5
  try clear Rw
  try clear XR
  try clear XV
  try clear afo
  try clear XM
  try clear XN
  try clear jr
  try clear Rx
  try clear XT
  try clear XW
  try clear afp
  try clear afq
  try clear afr
  try clear qa
  try clear zH
  try clear XU
  try clear XX
  try clear aie
  try clear aif
  try clear aih
  try clear rR
  try clear Dp
  try clear afs
  try clear Qu
  try clear aii
  try clear aij
  try clear aik
  try clear rT
  try clear Dq
  try clear aft
  try clear aaD
  refine wpIn_rangeFunc_ownH rfl (by omega) (gf:=135) (lb:=#[.pointer (some ⟨gP,0,none⟩),.pointer (some ⟨gX,0,none⟩)]) rfl trivial (enters_of Try.func135 (by kernel_rfl) rfl)
   (encs:=fun c:zz s=>#[.int .i64 c.1]) (Kp:=DK w gP gX b x) (S:=aaA s x) (Sp:=afk s x) (N:=(qF s x).length) (w0:=W0)
   (fun l J Jx X_ hW hJ _ hY h0=>Jf 5 (by omega) l gP gX w b s v x hT hS hx (DK w gP gX b x) (fun A B h hE=>⟨hE.1.trans h.1,h.2.1 hE.2.1,h.2.2 hE.2.2⟩) J Jx hY (fun f X Y h hB=>hJ f X Y none h ⟨hB.os,hB.tape,hB.output,hB.size,fun k hk _=>hB.block k hk⟩ (fun r e=>by cases e)) X_ ⟨ay mB hW,iT.IK mP hW,iT.IK mX hW⟩ h0) DK.trans (DK.put Ns (aU mP) (aU mX)) (Below.refl _ _) (fun _=>rfl)
   (fun pre W=>iT W g5 #[.pointer (some ⟨b,0,none⟩)] 104∧iT W g6 #[.int .i64 x.f0.f0,.int .i64 x.f0.f1,.int .i64 x.f1.f0,.int .i64 x.f1.f1] 31∧iT W g14 #[.int .i64 ((j*s.layers+layer)*(s.nx*s.ny))] 3∧iT W g10 #[.int .i64 (j3 (jk s x layer j0 q++(pre.map fun c=>vE s layer j c.1))).f0.f0,.int .i64 (j3 (jk s x layer j0 q++(pre.map fun c=>vE s layer j c.1))).f0.f1,.int .i64 (j3 (jk s x layer j0 q++(pre.map fun c=>vE s layer j c.1))).f1.f0,.int .i64 (j3 (jk s x layer j0 q++(pre.map fun c=>vE s layer j c.1))).f1.f1] 31∧iT W g12 #[.bool (sD (jk s x layer j0 q++(pre.map fun c=>vE s layer j c.1))).isNone] 4∧Marks W w.heap.size Ds∧Below w.heap.size w W)
   (fun c pre W=>False)
   (OwnFrom.and (qL _ _ (fun _=>_) _) (OwnFrom.and (qL _ _ (fun _=>_) _) (OwnFrom.and (qL _ _ (fun _=>_) _) (OwnFrom.and (qL _ _ (fun pre:List (zz s)=>#[.int .i64 (j3 (jk s x layer j0 q++(pre.map fun c=>vE s layer j c.1))).f0.f0,.int .i64 (j3 (jk s x layer j0 q++(pre.map fun c=>vE s layer j c.1))).f0.f1,.int .i64 (j3 (jk s x layer j0 q++(pre.map fun c=>vE s layer j c.1))).f1.f0,.int .i64 (j3 (jk s x layer j0 q++(pre.map fun c=>vE s layer j c.1))).f1.f1]) _) (OwnFrom.and (qL _ _ (fun pre:List (zz s)=>#[.bool (sD (jk s x layer j0 q++(pre.map fun c=>vE s layer j c.1))).isNone]) _) (OwnFrom.and (MI _ _ Ds hDs) (ownFrom_below (by omega) (by omega))))))))
   (fun c pre X Y row hs hg hr=>hs)
   ⟨m5,m6,m14,by rw [List.map_nil,List.append_nil];exact m10,by rw [List.map_nil,List.append_nil];exact m12,hM0,mB⟩
   (fun c a' W=>∃ u_:Nat→Value,a' = { tmps:=#[(u_ 0),(u_ 1),(u_ 2),(u_ 3),(u_ 4),.pointer (some ⟨g5,0,none⟩),(u_ 6),(u_ 7),(u_ 8),(u_ 9),.pointer (some ⟨g10,0,none⟩),(u_ 11),.pointer (some ⟨g12,0,none⟩),(u_ 13),.pointer (some ⟨g14,0,none⟩),.int .i64 c.1,(u_ 16),(u_ 17),(u_ 18),(u_ 19),(u_ 20),(u_ 21),(u_ 22),(u_ 23),(u_ 24),(u_ 25),(u_ 26),(u_ 27),(u_ 28),(u_ 29),(u_ 30),(u_ 31),(u_ 32),(u_ 33),(u_ 34),(u_ 35),(u_ 36),(u_ 37),(u_ 38),(u_ 39),(u_ 40),(u_ 41),(u_ 42),(u_ 43),(u_ 44),(u_ 45),(u_ 46),(u_ 47),(u_ 48),(u_ 49),(u_ 50),(u_ 51),(u_ 52),(u_ 53),(u_ 54),(u_ 55),(u_ 56),(u_ 57),(u_ 58),(u_ 59),(u_ 60),(u_ 61),(u_ 62),(u_ 63),(u_ 64),(u_ 65),(u_ 66),(u_ 67),(u_ 68),(u_ 69),(u_ 70),(u_ 71),(u_ 72),(u_ 73),(u_ 74),(u_ 75),(u_ 76),(u_ 77),(u_ 78),(u_ 79),(u_ 80),(u_ 81),(u_ 82),(u_ 83),(u_ 84),(u_ 85),(u_ 86),(u_ 87),(u_ 88),(u_ 89),(u_ 90),(u_ 91)],defers:=[] })
   (fun c a' s X Y row hs hg hr=>hs) ?assign ?body ?done ?stop
  case assign =>
   rintro l pre c X_ K hI hK
   gi_wp2
   exact hK _ _ ((KeepsOthers.refl X_).from _) (DK.below hI.2.2.2.2.2.2.size (Below.refl _ _)) hI ⟨(fun k=>(#[(u_ 0),(u_ 1),.int .i64 layer,(u_ 3),.int .i64 u,.pointer (some ⟨g5,0,none⟩),.pointer (some ⟨g6,0,none⟩),(u_ 7),(u_ 8),(u_ 9),.pointer (some ⟨g10,0,none⟩),.int .i64 (s.nx*s.ny),.pointer (some ⟨g12,0,none⟩),.int .i64 j,.pointer (some ⟨g14,0,none⟩),.int .i64 c.1,(u_ 16),(u_ 17),(u_ 18),(u_ 19),(u_ 20),(u_ 21),(u_ 22),(u_ 23),(u_ 24),(u_ 25),(u_ 26),(u_ 27),(u_ 28),(u_ 29),(u_ 30),(u_ 31),(u_ 32),(u_ 33),(u_ 34),.int .i64 j,.int .i64 u,.int .i64 (u - 1),.pointer (some ⟨b,0,none⟩),.pointer (some ⟨b,0,none⟩),.pointer (some ⟨b,0,none⟩),.pointer (some ⟨b,3,none⟩),.int .i64 s.slot,.int .i64 j1,.bool true,(u_ 45),(u_ 46),.int .i64 j,.pointer (some ⟨b,0,none⟩),.pointer (some ⟨b,0,none⟩),.pointer (some ⟨b,0,none⟩),.pointer (some ⟨b,5,none⟩),.int .i64 s.layers,.int .i64 (j*s.layers),.int .i64 layer,.int .i64 (j*s.layers+layer),.int .i64 (s.nx*s.ny),.int .i64 ((j*s.layers+layer)*(s.nx*s.ny)),.pointer (some ⟨b,0,none⟩),.agg #[.int .i64 x.f0.f0,.int .i64 x.f0.f1,.int .i64 x.f1.f0,.int .i64 x.f1.f1],.func (.func 135) #[] #[.pointer (some ⟨gP,0,none⟩),.pointer (some ⟨gX,0,none⟩)],.int .i64 c.1,(u_ 62),(u_ 63),(u_ 64),(u_ 65),(u_ 66),(u_ 67),(u_ 68),(u_ 69),(u_ 70),(u_ 71),(u_ 72),(u_ 73),(u_ 74),(u_ 75),(u_ 76),(u_ 77),(u_ 78),(u_ 79),(u_ 80),(u_ 81),(u_ 82),(u_ 83),(u_ 84),(u_ 85),(u_ 86),(u_ 87),(u_ 88),(u_ 89),(u_ 90),(u_ 91)]:Array Value).getD k undef),rfl⟩
  case stop =>
   rintro D_ c pre X_ hD hp h hK
   exact h.elim
  case done =>
   rintro D_ xs X_ hD hxs ⟨m5,m6,m14,m10,m12,hM,mB⟩ hK
   have hL:jk s x layer j0 q++xs.map (fun c=>vE s layer j c.1) = jk s x layer j0 (q+1):=by rw [Ru];unfold slotL;rw [← (show xs.map Subtype.val = qF s x from hxs),List.map_map,← HJ.out];rfl
   rw [hL] at m10 m12
   clear hL
   have hM2:=hM.cons (fun h=>absurd (hDs D_ h) (Nat.not_lt.2 hD)) (Nat.le_trans Ns hD) hK
   gi_wp2
   skip
   exact ⟨⟨q+1,j+1,D_ :: Ds,(fun k=>(#[(u_ 0),(u_ 1),.int .i64 layer,(u_ 3),.int .i64 u,.pointer (some ⟨g5,0,none⟩),.pointer (some ⟨g6,0,none⟩),(u_ 7),(u_ 8),(u_ 9),.pointer (some ⟨g10,0,none⟩),.int .i64 (s.nx*s.ny),.pointer (some ⟨g12,0,none⟩),.int .i64 (j+1),.pointer (some ⟨g14,0,none⟩),(u_ 15),(u_ 16),(u_ 17),(u_ 18),(u_ 19),(u_ 20),(u_ 21),(u_ 22),(u_ 23),(u_ 24),(u_ 25),(u_ 26),(u_ 27),(u_ 28),(u_ 29),(u_ 30),(u_ 31),(u_ 32),(u_ 33),(u_ 34),.int .i64 j,.int .i64 u,.int .i64 (u - 1),.pointer (some ⟨b,0,none⟩),.pointer (some ⟨b,0,none⟩),.pointer (some ⟨b,0,none⟩),.pointer (some ⟨b,3,none⟩),.int .i64 s.slot,.int .i64 j1,.bool true,.int .i64 j,.int .i64 (j+1),.int .i64 j,.pointer (some ⟨b,0,none⟩),.pointer (some ⟨b,0,none⟩),.pointer (some ⟨b,0,none⟩),.pointer (some ⟨b,5,none⟩),.int .i64 s.layers,.int .i64 (j*s.layers),.int .i64 layer,.int .i64 (j*s.layers+layer),.int .i64 (s.nx*s.ny),.int .i64 ((j*s.layers+layer)*(s.nx*s.ny)),.pointer (some ⟨b,0,none⟩),.agg #[.int .i64 x.f0.f0,.int .i64 x.f0.f1,.int .i64 x.f1.f0,.int .i64 x.f1.f1],.func (.func 135) #[] #[.pointer (some ⟨gP,0,none⟩),.pointer (some ⟨gX,0,none⟩)],(u_ 61),(u_ 62),(u_ 63),(u_ 64),(u_ 65),(u_ 66),(u_ 67),(u_ 68),(u_ 69),(u_ 70),(u_ 71),(u_ 72),(u_ 73),(u_ 74),(u_ 75),(u_ 76),(u_ 77),(u_ 78),(u_ 79),(u_ 80),(u_ 81),(u_ 82),(u_ 83),(u_ 84),(u_ 85),(u_ 86),(u_ 87),(u_ 88),(u_ 89),(u_ 90),(u_ 91)]:Array Value).getD k undef),rfl,HJ2,hq2,hM2,m5,m6,m10,m12,mB⟩,by simp [intOf];omega⟩
  case body =>
   skip
   rintro l pre c a_ X_ hlW ⟨r,hr⟩ ⟨m5,m6,m14,m10,m12,hM,mB⟩ ⟨u_,rfl⟩ hlen
   have hXs:W0.heap.size≤X_.heap.size:=Nat.le_trans hlW (Nat.le_of_lt (aU hr))
   clear hr
   have hN:Below X_.heap.size X_ X_:=Below.refl _ _
   obtain ⟨A7,c7,A8,c8,mT,_,_,hc8,R4⟩:=hT.below mB
   have hidx:=QW (q:=j) (l:=layer) (k:=s.nx*s.ny) (c:=c.1) (ll:=s.slots) (kk:=s.layers) (by omega) (by omega) hl0 hl1 c.2.1 c.2.2
   rw [← HCU.out] at hidx
   have HY:Hid (vE s layer j c.1 = ⟨(bn s.currents ((j*s.layers+layer)*(s.nx*s.ny)+c.1)).f0,(bn s.currents ((j*s.layers+layer)*(s.nx*s.ny)+c.1)).f1⟩):=Lib.hid rfl
   obtain ⟨hi0,hi1⟩:=hidx
   obtain ⟨ad,e_,hy0,hy1,hy2,hy3⟩:=yE R4 _ hi0 hi1
   cases e_
   clear R4
   generalize bn s.currents ((j*s.layers+layer)*(s.nx*s.ny)+c.1) = y at*
   generalize (j*s.layers+layer)*(s.nx*s.ny) = R at*
   have wR:wrap64 (R+c.1) = R+c.1:=by unfold wrap64;have:=c.2;omega
   have hm0:sD (jk s x layer j0 q++(pre.map fun c=>vE s layer j c.1)) = sD (jk s x layer j0 q++(pre.map fun c=>vE s layer j c.1)):=rfl
   generalize apk:(jk s x layer j0 q++(pre.map fun c=>vE s layer j c.1)) = L at*
   have hLL:=Lib.hid apk
   clear hm0 apk
   gi_wp2_with fail
   replace mT:=ai mT
   replace m5:=ai m5
   replace m6:=ai m6
   replace m10:=ai m10
   replace m12:=ai m12
   replace m14:=ai m14
   replace mB:=av mB
   replace hy0:=((av (Below.refl X_.heap.size X_)).cell (World.block_lt_of_cell? X_ _ hy0)).trans hy0
   replace hy1:=((av (Below.refl X_.heap.size X_)).cell (World.block_lt_of_cell? X_ _ hy1)).trans hy1
   replace hy2:=((av (Below.refl X_.heap.size X_)).cell (World.block_lt_of_cell? X_ _ hy2)).trans hy2
   replace hy3:=((av (Below.refl X_.heap.size X_)).cell (World.block_lt_of_cell? X_ _ hy3)).trans hy3
   replace hM:=hM.below (av (Below.refl _ X_))
   replace hN:=av hN
   refine aao (m:=25) (S:=fun w'=>w'.cell? ⟨g5,0,none⟩ = some (.pointer (some ⟨b,0,none⟩))∧w'.cell? ⟨g14,0,none⟩ = some (.int .i64 R)∧w'.cell? ⟨b,8,none⟩ = some (.slice (some ad) s.currents.length c8)∧w'.cell? (ad.add ((R+c.1).toNat*4)) = some (.int .i64 y.f0.f0)∧w'.cell? ⟨(ad.add ((R+c.1).toNat*4)).block,(ad.add ((R+c.1).toNat*4)).off+1,none⟩ = some (.int .i64 y.f0.f1)∧w'.cell? ⟨(ad.add ((R+c.1).toNat*4)).block,(ad.add ((R+c.1).toNat*4)).off+2,none⟩ = some (.int .i64 y.f1.f0)∧w'.cell? ⟨(ad.add ((R+c.1).toNat*4)).block,(ad.add ((R+c.1).toNat*4)).off+3,none⟩ = some (.int .i64 y.f1.f1)) (ds:=[24]) #[false,false,false,false,false,false,false,false,false,false,false,false,false,false,false,false,false,false,false,false,false,false,false,false,false] (by kernel_rfl) (Qq (Jp Qp)) (by kernel_rfl) rfl rfl ⟨((aa m5 0).trans rfl),((aa m14 0).trans rfl),((aa mT 8).trans rfl),hy0,hy1,hy2,hy3⟩ (fun hHeld=>?_)
   generalize hWd:World.drew _ = Wx at mB mT m5 m6 m10 m12 m14 hM hN hy0 hy1 hy2 hy3 hHeld ⊢
   clear hWd
   refine bU (i:=6) (N:=some 68) (v:=?_) (a':=?_) #[false,false,false,false,false,false,true,false,false,false,false,false,false,false,false,false,false,false,false,false,false,false,false,false,false] rfl rfl (by kernel_rfl) (fun _ _ _ h=>h) (Or.inl ⟨by rfl,?_⟩) ?_ ?_
   rotate_left
   ·intro w'
    go_simp
    with_reducible rfl
   rotate_left
   ·simp only [Act.put,List.setIfInBounds_toArray,List.set_cons_zero,List.set_cons_succ,aZ,bf]
    rfl
   refine bU (i:=17) (N:=some 79) (v:=?_) (a':=?_) #[false,false,false,false,false,false,true,false,false,false,false,false,false,false,false,false,false,true,false,false,false,false,false,false,false] rfl rfl (by kernel_rfl) (fun _ _ _ h=>h) (Or.inl ⟨by rfl,?_⟩) ?_ ?_
   rotate_left
   ·intro w'
    go_simp
    with_reducible rfl
   rotate_left
   ·simp only [Act.put,List.setIfInBounds_toArray,List.set_cons_zero,List.set_cons_succ,aZ,bf]
    rfl
   refine gB (i:=0) (N:=some 62) (v:=?_) (a':=?_) #[true,false,false,false,false,false,true,false,false,false,false,false,false,false,false,false,false,true,false,false,false,false,false,false,false] rfl rfl (by kernel_rfl) (fun _ _ _ h=>h) (Or.inl ⟨by rfl,?_⟩) hHeld ?_ ?_
   rotate_left
   ·rintro w' ⟨s0,s1,s2,s3,s4,s5,s6⟩
    go_simp
    with_reducible rfl
   rotate_left
   ·simp only [Act.put,List.setIfInBounds_toArray,List.set_cons_zero,List.set_cons_succ,aZ,bf]
    rfl
   refine bU (i:=1) (N:=some 63) (v:=?_) (a':=?_) #[true,true,false,false,false,false,true,false,false,false,false,false,false,false,false,false,false,true,false,false,false,false,false,false,false] rfl rfl (by kernel_rfl) (fun _ _ _ h=>h) (Or.inl ⟨by rfl,?_⟩) ?_ ?_
   rotate_left
   ·intro w'
    go_simp
    with_reducible rfl
   rotate_left
   ·simp only [Act.put,List.setIfInBounds_toArray,List.set_cons_zero,List.set_cons_succ,aZ,bf]
    rfl
   refine bU (i:=2) (N:=some 64) (v:=?_) (a':=?_) #[true,true,true,false,false,false,true,false,false,false,false,false,false,false,false,false,false,true,false,false,false,false,false,false,false] rfl rfl (by kernel_rfl) (fun _ _ _ h=>h) (Or.inl ⟨by rfl,?_⟩) ?_ ?_
   rotate_left
   ·intro w'
    go_simp
    with_reducible rfl
   rotate_left
   ·simp only [Act.put,List.setIfInBounds_toArray,List.set_cons_zero,List.set_cons_succ,aZ,bf]
    rfl
   refine bU (i:=3) (N:=some 65) (v:=?_) (a':=?_) #[true,true,true,true,false,false,true,false,false,false,false,false,false,false,false,false,false,true,false,false,false,false,false,false,false] rfl rfl (by kernel_rfl) (fun _ _ _ h=>h) (Or.inl ⟨by rfl,?_⟩) ?_ ?_
   rotate_left
   ·intro w'
    go_simp
    with_reducible rfl
   rotate_left
   ·simp only [Act.put,List.setIfInBounds_toArray,List.set_cons_zero,List.set_cons_succ,aZ,bf]
    rfl
   refine gB (i:=4) (N:=some 66) (v:=?_) (a':=?_) #[true,true,true,true,true,false,true,false,false,false,false,false,false,false,false,false,false,true,false,false,false,false,false,false,false] rfl rfl (by kernel_rfl) (fun _ _ _ h=>h) (Or.inl ⟨by rfl,?_⟩) hHeld ?_ ?_
   rotate_left
   ·rintro w' ⟨s0,s1,s2,s3,s4,s5,s6⟩
    go_simp
    with_reducible rfl
   rotate_left
   ·simp only [Act.put,List.setIfInBounds_toArray,List.set_cons_zero,List.set_cons_succ,aZ,bf]
    rfl
   refine gB (i:=5) (N:=some 67) (v:=?_) (a':=?_) #[true,true,true,true,true,true,true,false,false,false,false,false,false,false,false,false,false,true,false,false,false,false,false,false,false] rfl rfl (by kernel_rfl) (fun _ _ _ h=>h) (Or.inl ⟨by rfl,?_⟩) hHeld ?_ ?_
   rotate_left
   ·rintro w' ⟨s0,s1,s2,s3,s4,s5,s6⟩
    go_simp
    with_reducible rfl
   rotate_left
   ·simp only [Act.put,List.setIfInBounds_toArray,List.set_cons_zero,List.set_cons_succ,aZ,bf]
    rfl
   refine bU (i:=7) (N:=some 69) (v:=?_) (a':=?_) #[true,true,true,true,true,true,true,true,false,false,false,false,false,false,false,false,false,true,false,false,false,false,false,false,false] rfl rfl (by kernel_rfl) (fun _ _ _ h=>h) (Or.inl ⟨by rfl,?_⟩) ?_ ?_
   rotate_left
   ·intro w'
    go_simp
    with_reducible rfl
   rotate_left
   ·simp only [Act.put,List.setIfInBounds_toArray,List.set_cons_zero,List.set_cons_succ,aZ,bf]
    rfl
   refine bU (i:=8) (N:=some 70) (v:=?_) (a':=?_) #[true,true,true,true,true,true,true,true,true,false,false,false,false,false,false,false,false,true,false,false,false,false,false,false,false] rfl rfl (by kernel_rfl) (fun _ _ _ h=>h) (Or.inl ⟨by rfl,?_⟩) ?_ ?_
   rotate_left
   ·intro w'
    go_simp
    with_reducible rfl
   rotate_left
   ·simp only [Act.put,List.setIfInBounds_toArray,List.set_cons_zero,List.set_cons_succ,aZ,bf]
    rfl
   refine bU (i:=9) (N:=some 71) (v:=?_) (a':=?_) #[true,true,true,true,true,true,true,true,true,true,false,false,false,false,false,false,false,true,false,false,false,false,false,false,false] rfl rfl (by kernel_rfl) (fun _ _ _ h=>h) (Or.inl ⟨by rfl,?_⟩) ?_ ?_
   rotate_left
   ·intro w'
    go_simp
    with_reducible rfl
   rotate_left
   ·simp only [Act.put,List.setIfInBounds_toArray,List.set_cons_zero,List.set_cons_succ,aZ,bf]
    rfl
   refine gB (i:=10) (N:=some 72) (v:=?_) (a':=?_) #[true,true,true,true,true,true,true,true,true,true,true,false,false,false,false,false,false,true,false,false,false,false,false,false,false] rfl rfl (by kernel_rfl) (fun _ _ _ h=>h) (Or.inl ⟨by rfl,?_⟩) hHeld ?_ ?_
   rotate_left
   ·rintro w' ⟨s0,s1,s2,s3,s4,s5,s6⟩
    go_simp
    with_reducible rfl
   rotate_left
   ·simp only [Act.put,List.setIfInBounds_toArray,List.set_cons_zero,List.set_cons_succ,aZ,bf]
    rfl
   refine gB (i:=11) (N:=some 73) (v:=?_) (a':=?_) #[true,true,true,true,true,true,true,true,true,true,true,true,false,false,false,false,false,true,false,false,false,false,false,false,false] rfl rfl (by kernel_rfl) (fun _ _ _ h=>h) (Or.inl ⟨by rfl,?_⟩) hHeld ?_ ?_
   rotate_left
   ·rintro w' ⟨s0,s1,s2,s3,s4,s5,s6⟩
    go_simp
    with_reducible rfl
   rotate_left
   ·simp only [Act.put,List.setIfInBounds_toArray,List.set_cons_zero,List.set_cons_succ,aZ,bf]
    rfl
   refine bU (i:=12) (N:=some 74) (v:=?_) (a':=?_) #[true,true,true,true,true,true,true,true,true,true,true,true,true,false,false,false,false,true,false,false,false,false,false,false,false] rfl rfl (by kernel_rfl) (fun _ _ _ h=>h) (Or.inl ⟨by rfl,?_⟩) ?_ ?_
   rotate_left
   ·intro w'
    go_simp
    with_reducible rfl
   rotate_left
   ·simp only [Act.put,List.setIfInBounds_toArray,List.set_cons_zero,List.set_cons_succ,aZ,bf]
    rfl
   refine bU (i:=13) (N:=some 75) (v:=?_) (a':=?_) #[true,true,true,true,true,true,true,true,true,true,true,true,true,true,false,false,false,true,false,false,false,false,false,false,false] rfl rfl (by kernel_rfl) (fun _ _ _ h=>h) (Or.inl ⟨by rfl,?_⟩) ?_ ?_
   rotate_left
   ·intro w'
    go_simp
    with_reducible rfl
   rotate_left
   ·simp only [Act.put,List.setIfInBounds_toArray,List.set_cons_zero,List.set_cons_succ,aZ,bf]
    rfl
   refine bU (i:=14) (N:=some 76) (v:=?_) (a':=?_) #[true,true,true,true,true,true,true,true,true,true,true,true,true,true,true,false,false,true,false,false,false,false,false,false,false] rfl rfl (by kernel_rfl) (fun _ _ _ h=>h) (Or.inl ⟨by rfl,?_⟩) ?_ ?_
   rotate_left
   ·intro w'
    go_simp
    with_reducible rfl
   rotate_left
   ·simp only [Act.put,List.setIfInBounds_toArray,List.set_cons_zero,List.set_cons_succ,aZ,bf]
    rfl
   refine gB (i:=15) (N:=some 77) (v:=?_) (a':=?_) #[true,true,true,true,true,true,true,true,true,true,true,true,true,true,true,true,false,true,false,false,false,false,false,false,false] rfl rfl (by kernel_rfl) (fun _ _ _ h=>h) (Or.inl ⟨by rfl,?_⟩) hHeld ?_ ?_
   rotate_left
   ·rintro w' ⟨s0,s1,s2,s3,s4,s5,s6⟩
    go_simp
    with_reducible rfl
   rotate_left
   ·simp only [Act.put,List.setIfInBounds_toArray,List.set_cons_zero,List.set_cons_succ,aZ,bf]
    rfl
   refine gB (i:=16) (N:=some 78) (v:=?_) (a':=?_) #[true,true,true,true,true,true,true,true,true,true,true,true,true,true,true,true,true,true,false,false,false,false,false,false,false] rfl rfl (by kernel_rfl) (fun _ _ _ h=>h) (Or.inl ⟨by rfl,?_⟩) hHeld ?_ ?_
   rotate_left
   ·rintro w' ⟨s0,s1,s2,s3,s4,s5,s6⟩
    go_simp
    with_reducible rfl
   rotate_left
   ·simp only [Act.put,List.setIfInBounds_toArray,List.set_cons_zero,List.set_cons_succ,aZ,bf]
    rfl
   refine bU (i:=18) (N:=some 80) (v:=?_) (a':=?_) #[true,true,true,true,true,true,true,true,true,true,true,true,true,true,true,true,true,true,true,false,false,false,false,false,false] rfl rfl (by kernel_rfl) (fun _ _ _ h=>h) (Or.inl ⟨by rfl,?_⟩) ?_ ?_
   rotate_left
   ·intro w'
    go_simp
    with_reducible rfl
   rotate_left
   ·simp only [Act.put,List.setIfInBounds_toArray,List.set_cons_zero,List.set_cons_succ,aZ,bf]
    rfl
   refine bU (i:=19) (N:=some 81) (v:=?_) (a':=?_) #[true,true,true,true,true,true,true,true,true,true,true,true,true,true,true,true,true,true,true,true,false,false,false,false,false] rfl rfl (by kernel_rfl) (fun _ _ _ h=>h) (Or.inl ⟨by rfl,?_⟩) ?_ ?_
   rotate_left
   ·intro w'
    go_simp
    with_reducible rfl
   rotate_left
   ·simp only [Act.put,List.setIfInBounds_toArray,List.set_cons_zero,List.set_cons_succ,aZ,bf]
    rfl
   refine bU (i:=20) (N:=some 82) (v:=?_) (a':=?_) #[true,true,true,true,true,true,true,true,true,true,true,true,true,true,true,true,true,true,true,true,true,false,false,false,false] rfl rfl (by kernel_rfl) (fun _ _ _ h=>h) (Or.inl ⟨by rfl,?_⟩) ?_ ?_
   rotate_left
   ·intro w'
    go_simp
    with_reducible rfl
   rotate_left
   ·simp only [Act.put,List.setIfInBounds_toArray,List.set_cons_zero,List.set_cons_succ,aZ,bf]
    rfl
   refine gB (i:=21) (N:=some 83) (v:=?_) (a':=?_) #[true,true,true,true,true,true,true,true,true,true,true,true,true,true,true,true,true,true,true,true,true,true,false,false,false] rfl rfl (by kernel_rfl) (fun _ _ _ h=>h) (Or.inl ⟨by rfl,?_⟩) hHeld ?_ ?_
   rotate_left
   ·rintro w' ⟨s0,s1,s2,s3,s4,s5,s6⟩
    go_simp
    with_reducible rfl
   rotate_left
   ·simp only [Act.put,List.setIfInBounds_toArray,List.set_cons_zero,List.set_cons_succ,aZ,bf]
    rfl
   refine bU (i:=22) (N:=some 84) (v:=?_) (a':=?_) #[true,true,true,true,true,true,true,true,true,true,true,true,true,true,true,true,true,true,true,true,true,true,true,false,false] rfl rfl (by kernel_rfl) (fun _ _ _ h=>h) (Or.inl ⟨by rfl,?_⟩) ?_ ?_
   rotate_left
   ·intro w'
    go_simp
    with_reducible rfl
   rotate_left
   ·simp only [Act.put,List.setIfInBounds_toArray,List.set_cons_zero,List.set_cons_succ,aZ,bf]
    rfl
   refine o7 (i:=23) (N:=some 16) #[true,true,true,true,true,true,true,true,true,true,true,true,true,true,true,true,true,true,true,true,true,true,true,true,false] rfl rfl (by kernel_rfl) (by decide) (fun K hK=>?_)
   refine Iw (w1:=?_) (v:=?_) (by rfl) rfl ?_ ?_
   rotate_left 2
   ·go_simp
    constructor
    ·rfl
    ·rfl
   refine hK.out _ _ ⟨((aa (af m5 (.cells #[.int .i64 0,.int .i64 0,.int .i64 0,.int .i64 0] 31)) 0).trans rfl),((aa (af m14 (.cells #[.int .i64 0,.int .i64 0,.int .i64 0,.int .i64 0] 31)) 0).trans rfl),((aa (af mT (.cells #[.int .i64 0,.int .i64 0,.int .i64 0,.int .i64 0] 31)) 8).trans rfl),((au (Below.refl Wx.heap.size Wx) (.cells #[.int .i64 0,.int .i64 0,.int .i64 0,.int .i64 0] 31)).cell (World.block_lt_of_cell? Wx _ hy0)).trans hy0,((au (Below.refl Wx.heap.size Wx) (.cells #[.int .i64 0,.int .i64 0,.int .i64 0,.int .i64 0] 31)).cell (World.block_lt_of_cell? Wx _ hy1)).trans hy1,((au (Below.refl Wx.heap.size Wx) (.cells #[.int .i64 0,.int .i64 0,.int .i64 0,.int .i64 0] 31)).cell (World.block_lt_of_cell? Wx _ hy2)).trans hy2,((au (Below.refl Wx.heap.size Wx) (.cells #[.int .i64 0,.int .i64 0,.int .i64 0,.int .i64 0] 31)).cell (World.block_lt_of_cell? Wx _ hy3)).trans hy3⟩ (fun hHeld=>?_)
   clear hK K
   refine iP (a':=?_) ?_ ?_
   rotate_left
   ·show Act.put _ (some 16) _ = _
    simp only [Act.put,List.setIfInBounds_toArray,List.set_cons_zero,List.set_cons_succ,aZ,bf]
    rfl
   refine M5 (i:=24) (N:=none) #[true,true,true,true,true,true,true,true,true,true,true,true,true,true,true,true,true,true,true,true,true,true,true,true,true] rfl rfl (by kernel_rfl) (by decide) (fun K hK=>?_)
   have XI:=fK Wx (.cells #[.int .i64 0,.int .i64 0,.int .i64 0,.int .i64 0] 31)
   have TL:=ae XI 0
   have TM:=ae XI 1
   have ail:=ae XI 2
   have aim:=ae XI 3
   have TN:=(aa XI 0).trans rfl
   have TP:=(aa XI 1).trans rfl
   have ain:=(aa XI 2).trans rfl
   have aio:=(aa XI 3).trans rfl
   refine Ld (w1:=?_) (by rfl) rfl ?_ ?_
   rotate_left
   ·go_simp
    rfl
   refine hK.out _ _ ?_
   clear hK K
   refine tT (by kernel_rfl) ?_
   try clear hHeld
   skip
   clear hy0 hy1 hy2 hy3 wR
   have Rq:w.heap.size≤Wx.heap.size:=mB.size
   have GI:W0.heap.size≤Wx.heap.size:=Nat.le_trans hXs hN.size
   replace hM:=hM.below (au (Below.refl _ Wx) (.cells #[.int .i64 y.f0.f0,.int .i64 y.f0.f1,.int .i64 y.f1.f0,.int .i64 y.f1.f1] 31))
   replace hN:=ay hN (au (Below.refl _ Wx) (.cells #[.int .i64 y.f0.f0,.int .i64 y.f0.f1,.int .i64 y.f1.f0,.int .i64 y.f1.f1] 31))
   have Bn:=aU mT
   have LJ:=aU m5
   have Qx:=aU m6
   have LX:=aU m10
   have aaH:=aU m12
   have apl:=aU m14
   have m16:iT (Wx.alloc (.cells #[.int .i64 y.f0.f0,.int .i64 y.f0.f1,.int .i64 y.f1.f0,.int .i64 y.f1.f1] 31)) (Wx.heap.size) #[.int .i64 y.f0.f0,.int .i64 y.f0.f1,.int .i64 y.f1.f0,.int .i64 y.f1.f1] 31:=(by have h_:=fK Wx (.cells #[.int .i64 y.f0.f0,.int .i64 y.f0.f1,.int .i64 y.f1.f0,.int .i64 y.f1.f1] 31);first|exact h_|(simp only [World.size_alloc] at h_;exact h_))
   replace mT:iT (Wx.alloc (.cells #[.int .i64 y.f0.f0,.int .i64 y.f0.f1,.int .i64 y.f1.f0,.int .i64 y.f1.f1] 31)) b #[.int .i64 s.nx,.int .i64 s.ny,.int .i64 s.cell,.int .i64 s.slot,.int .i64 s.slots,.int .i64 s.layers,.int .i64 s.most,.slice A7 s.shores.length c7,.slice (some ad) s.currents.length c8,.int .i64 v.speed,.int .i64 v.dive,.int .i64 v.use.f0,.int .i64 v.use.f1,.int .i64 v.drift.f0,.int .i64 v.drift.f1,.int .i64 v.reserve] 110:=(af mT _)
   replace m5:iT (Wx.alloc (.cells #[.int .i64 y.f0.f0,.int .i64 y.f0.f1,.int .i64 y.f1.f0,.int .i64 y.f1.f1] 31)) g5 #[.pointer (some ⟨b,0,none⟩)] 104:=(af m5 _)
   replace m6:iT (Wx.alloc (.cells #[.int .i64 y.f0.f0,.int .i64 y.f0.f1,.int .i64 y.f1.f0,.int .i64 y.f1.f1] 31)) g6 #[.int .i64 x.f0.f0,.int .i64 x.f0.f1,.int .i64 x.f1.f0,.int .i64 x.f1.f1] 31:=(af m6 _)
   replace m10:iT (Wx.alloc (.cells #[.int .i64 y.f0.f0,.int .i64 y.f0.f1,.int .i64 y.f1.f0,.int .i64 y.f1.f1] 31)) g10 #[.int .i64 (j3 L).f0.f0,.int .i64 (j3 L).f0.f1,.int .i64 (j3 L).f1.f0,.int .i64 (j3 L).f1.f1] 31:=(af m10 _)
   replace m12:iT (Wx.alloc (.cells #[.int .i64 y.f0.f0,.int .i64 y.f0.f1,.int .i64 y.f1.f0,.int .i64 y.f1.f1] 31)) g12 #[.bool (sD L).isNone] 4:=(af m12 _)
   replace m14:iT (Wx.alloc (.cells #[.int .i64 y.f0.f0,.int .i64 y.f0.f1,.int .i64 y.f1.f0,.int .i64 y.f1.f1] 31)) g14 #[.int .i64 R] 3:=(af m14 _)
   replace mB:Below w.heap.size w (Wx.alloc (.cells #[.int .i64 y.f0.f0,.int .i64 y.f0.f1,.int .i64 y.f1.f0,.int .i64 y.f1.f1] 31)):=(au mB _)
   have qi:w.heap.size≤Wx.heap.size:=Rq
   generalize zx:(Wx.alloc (.cells #[.int .i64 y.f0.f0,.int .i64 y.f0.f1,.int .i64 y.f1.f0,.int .i64 y.f1.f1] 31)) = W3 at mT m5 m6 m10 m12 m14 m16 mB hM hN ⊢
   clear zx
   generalize aBI:Wx.heap.size = g16 at m16 GI ⊢
   have XY:b≠g16:=by omega
   have wF:g5≠g16:=by omega
   have wG:g6≠g16:=by omega
   have j6:g10≠g16:=by omega
   have ui:g12≠g16:=by omega
   have uj:g14≠g16:=by omega
   have afu:g16≠b:=XY.symm
   have afv:g16≠g5:=wF.symm
   have afw:g16≠g6:=wG.symm
   have apm:g16≠g10:=j6.symm
   have apn:g16≠g12:=ui.symm
   have aaO:g16≠g14:=uj.symm
   have Ry:w.heap.size≤g16:=by omega
   clear qi Bn LJ Qx LX aaH apl
   try clear aBI
   have Jc:w.heap.size≤W3.heap.size:=mB.size
   have hNS:=HN.out
   obtain ⟨_,_,_,_,_,_,j5,jr,_⟩:=hNS
   have HN2:Hid (g5≠g16∧g6≠g16∧g14≠g16):=Lib.hid ⟨wF,wG,uj⟩
   try clear XY afu
   try clear wF afv
   try clear wG afw
   try clear uj aaO
   have hd_:1≤6 - 1 - 1:=by decide
   have hmx:Try.prog.follows .mixedOrders = true:=by kernel_rfl
   cases hO:sD L with
   |none =>
    rw [hO] at m12
    have HO:=Lib.hid hO
    clear hO
    have aaP:=(aa m16 0).trans rfl
    have aaQ:=(aa m16 1).trans rfl
    have aaR:=(aa m16 2).trans rfl
    have aaS:=(aa m16 3).trans rfl
    have vF:=(aa m10 0).trans rfl
    have vG:=(aa m10 1).trans rfl
    have vH:=(aa m10 2).trans rfl
    have vI:=(aa m10 3).trans rfl
    have aaT:=(aa m12 0).trans rfl
    have zC:=ae m10 0
    have zD:=ae m10 1
    have zF:=ae m10 2
    have zG:=ae m10 3
    have apo:=ae m12 0
    skip
    gi_wp2
    clear j5 jr
    obtain ⟨mU,wE,mV,nM,qa,zH,j5,jr,rR,rT,Dp,Dq⟩:=HN.out
    obtain ⟨wF,wG,uj⟩:=HN2.out
    have hE:vE s layer j c.1 = ⟨y.f0,y.f1⟩:=HY.out
    have hmap:jk s x layer j0 q++List.map (fun c=>vE s layer j c.1) (pre++[c]) = L++[(⟨y.f0,y.f1⟩:jI)]:=by rw [List.map_append,List.map_singleton,← List.append_assoc,hLL.out,hE]
    refine ⟨(AP hN).trans ((((((KeepsOthers.setCell _ _ _).trans (KeepsOthers.setCell _ _ _)).trans (KeepsOthers.setCell _ _ _)).trans (KeepsOthers.setCell _ _ _)).trans (KeepsOthers.setCell _ _ _)).from _),(DK.set (p:=⟨g12,0,none⟩) (DK.set (p:=⟨g10,3,none⟩) (DK.set (p:=⟨g10,2,none⟩) (DK.set (p:=⟨g10,1,none⟩) (DK.set (p:=⟨g10,0,none⟩) (DK.below (Nat.le_trans Ns hXs) hN) jl rR rT _) jl rR rT _) jl rR rT _) jl rR rT _) GH Dp Dq _),?_⟩
    dsimp only
    rw [hmap]
    unfold j3
    rw [LV HO.out]
    exact ⟨(az (p:=⟨g12,0,none⟩) (az (p:=⟨g10,3,none⟩) (az (p:=⟨g10,2,none⟩) (az (p:=⟨g10,1,none⟩) (az (p:=⟨g10,0,none⟩) m5 mU _) mU _) mU _) mU _) wE _),(az (p:=⟨g12,0,none⟩) (az (p:=⟨g10,3,none⟩) (az (p:=⟨g10,2,none⟩) (az (p:=⟨g10,1,none⟩) (az (p:=⟨g10,0,none⟩) m6 mV _) mV _) mV _) mV _) nM _),(az (p:=⟨g12,0,none⟩) (az (p:=⟨g10,3,none⟩) (az (p:=⟨g10,2,none⟩) (az (p:=⟨g10,1,none⟩) (az (p:=⟨g10,0,none⟩) m14 qa _) qa _) qa _) qa _) zH _),(az (p:=⟨g12,0,none⟩) (aW (aW (aW (aW m10 0 (.int .i64 y.f0.f0) rfl) 1 (.int .i64 y.f0.f1) rfl) 2 (.int .i64 y.f1.f0) rfl) 3 (.int .i64 y.f1.f1) rfl) j5 _),(aW (az (p:=⟨g10,3,none⟩) (az (p:=⟨g10,2,none⟩) (az (p:=⟨g10,1,none⟩) (az (p:=⟨g10,0,none⟩) m12 jr _) jr _) jr _) jr _) 0 (.bool false) rfl),(Marks.set (Marks.set (Marks.set (Marks.set (Marks.set hM m10 (i:=0) _) (aW m10 0 (.int .i64 y.f0.f0) rfl) (i:=1) _) (aW (aW m10 0 (.int .i64 y.f0.f0) rfl) 1 (.int .i64 y.f0.f1) rfl) (i:=2) _) (aW (aW (aW m10 0 (.int .i64 y.f0.f0) rfl) 1 (.int .i64 y.f0.f1) rfl) 2 (.int .i64 y.f1.f0) rfl) (i:=3) _) (az (p:=⟨g10,3,none⟩) (az (p:=⟨g10,2,none⟩) (az (p:=⟨g10,1,none⟩) (az (p:=⟨g10,0,none⟩) m12 jr _) jr _) jr _) jr _) (i:=0) _),(Below.setCell (p:=⟨g12,0,none⟩) (Below.setCell (p:=⟨g10,3,none⟩) (Below.setCell (p:=⟨g10,2,none⟩) (Below.setCell (p:=⟨g10,1,none⟩) (Below.setCell (p:=⟨g10,0,none⟩) mB jl _) jl _) jl _) jl _) GH _)⟩
   |some z =>
    have hz_:j3 L = z:=by unfold j3;rw [hO];rfl
    rw [hO] at m12
    rw [hz_] at m10
    have HO:=Lib.hid hO
    clear hO hz_
    have aaP:=(aa m16 0).trans rfl
    have aaQ:=(aa m16 1).trans rfl
    have aaR:=(aa m16 2).trans rfl
    have aaS:=(aa m16 3).trans rfl
    have vF:=(aa m10 0).trans rfl
    have vG:=(aa m10 1).trans rfl
    have vH:=(aa m10 2).trans rfl
    have vI:=(aa m10 3).trans rfl
    have aaT:=(aa m12 0).trans rfl
    gi_wp2_with fail
    clear aaP
    clear aaQ
    clear aaR
    clear aaS
    clear vF
    clear vG
    clear vH
    clear vI
    clear aaT
    have hcon:=aaE z ⟨y.f0,y.f1⟩ W3
    refine ⟨trivial,(CallsIn.inRound l (callsIn_wide.2 hcon)).mono ?_⟩
    clear hcon
    rintro e W4 ⟨rfl,hb⟩
    generalize hH:vR z ⟨y.f0,y.f1⟩ = h_ at*
    have HH:=Lib.hid hH
    clear hH
    replace hM:=hM.below hb
    replace hN:=ay hN hb
    replace mT:=ax mT hb
    replace m5:=ax m5 hb
    replace m6:=ax m6 hb
    replace m10:=ax m10 hb
    replace m12:=ax m12 hb
    replace m14:=ax m14 hb
    replace m16:=ax m16 hb
    replace mB:=ay mB hb
    clear hb
    have Rp:w.heap.size≤W4.heap.size:=mB.size
    have aaP:=(aa m16 0).trans rfl
    have aaQ:=(aa m16 1).trans rfl
    have aaR:=(aa m16 2).trans rfl
    have aaS:=(aa m16 3).trans rfl
    have vF:=(aa m10 0).trans rfl
    have vG:=(aa m10 1).trans rfl
    have vH:=(aa m10 2).trans rfl
    have vI:=(aa m10 3).trans rfl
    have aaT:=(aa m12 0).trans rfl
    have aEf:=ae m16 0
    have aEg:=ae m16 1
    have aEh:=ae m16 2
    have aEi:=ae m16 3
    have zC:=ae m10 0
    have zD:=ae m10 1
    have zF:=ae m10 2
    have zG:=ae m10 3
    have apo:=ae m12 0
    skip
    gi_wp2
    clear j5 jr
    obtain ⟨mU,wE,mV,nM,qa,zH,j5,jr,rR,rT,Dp,Dq⟩:=HN.out
    obtain ⟨wF,wG,uj⟩:=HN2.out
    have hE:vE s layer j c.1 = ⟨y.f0,y.f1⟩:=HY.out
    have hmap:jk s x layer j0 q++List.map (fun c=>vE s layer j c.1) (pre++[c]) = L++[(⟨y.f0,y.f1⟩:jI)]:=by rw [List.map_append,List.map_singleton,← List.append_assoc,hLL.out,hE]
    refine ⟨(AP hN).trans ((((((((((KeepsOthers.setCell _ _ _).trans (KeepsOthers.setCell _ _ _)).trans (KeepsOthers.setCell _ _ _)).trans (KeepsOthers.setCell _ _ _)).trans (KeepsOthers.setCell _ _ _)).trans (KeepsOthers.setCell _ _ _)).trans (KeepsOthers.setCell _ _ _)).trans (KeepsOthers.setCell _ _ _)).trans (KeepsOthers.setCell _ _ _)).from _),(DK.set (p:=⟨g12,0,none⟩) (DK.set (p:=⟨g10,3,none⟩) (DK.set (p:=⟨g10,2,none⟩) (DK.set (p:=⟨g10,1,none⟩) (DK.set (p:=⟨g10,0,none⟩) (DK.set (p:=⟨g16,3,none⟩) (DK.set (p:=⟨g16,2,none⟩) (DK.set (p:=⟨g16,1,none⟩) (DK.set (p:=⟨g16,0,none⟩) (DK.below (Nat.le_trans Ns hXs) hN) Ry (Nat.ne_of_lt (Nat.lt_of_lt_of_le (aU mP) GI)) (Nat.ne_of_lt (Nat.lt_of_lt_of_le (aU mX) GI)) _) Ry (Nat.ne_of_lt (Nat.lt_of_lt_of_le (aU mP) GI)) (Nat.ne_of_lt (Nat.lt_of_lt_of_le (aU mX) GI)) _) Ry (Nat.ne_of_lt (Nat.lt_of_lt_of_le (aU mP) GI)) (Nat.ne_of_lt (Nat.lt_of_lt_of_le (aU mX) GI)) _) Ry (Nat.ne_of_lt (Nat.lt_of_lt_of_le (aU mP) GI)) (Nat.ne_of_lt (Nat.lt_of_lt_of_le (aU mX) GI)) _) jl rR rT _) jl rR rT _) jl rR rT _) jl rR rT _) GH Dp Dq _),?_⟩
    dsimp only
    rw [hmap]
    unfold j3
    rw [LW HO.out]
    rw [HH.out]
    exact ⟨(az (p:=⟨g12,0,none⟩) (az (p:=⟨g10,3,none⟩) (az (p:=⟨g10,2,none⟩) (az (p:=⟨g10,1,none⟩) (az (p:=⟨g10,0,none⟩) (az (p:=⟨g16,3,none⟩) (az (p:=⟨g16,2,none⟩) (az (p:=⟨g16,1,none⟩) (az (p:=⟨g16,0,none⟩) m5 wF _) wF _) wF _) wF _) mU _) mU _) mU _) mU _) wE _),(az (p:=⟨g12,0,none⟩) (az (p:=⟨g10,3,none⟩) (az (p:=⟨g10,2,none⟩) (az (p:=⟨g10,1,none⟩) (az (p:=⟨g10,0,none⟩) (az (p:=⟨g16,3,none⟩) (az (p:=⟨g16,2,none⟩) (az (p:=⟨g16,1,none⟩) (az (p:=⟨g16,0,none⟩) m6 wG _) wG _) wG _) wG _) mV _) mV _) mV _) mV _) nM _),(az (p:=⟨g12,0,none⟩) (az (p:=⟨g10,3,none⟩) (az (p:=⟨g10,2,none⟩) (az (p:=⟨g10,1,none⟩) (az (p:=⟨g10,0,none⟩) (az (p:=⟨g16,3,none⟩) (az (p:=⟨g16,2,none⟩) (az (p:=⟨g16,1,none⟩) (az (p:=⟨g16,0,none⟩) m14 uj _) uj _) uj _) uj _) qa _) qa _) qa _) qa _) zH _),(az (p:=⟨g12,0,none⟩) (aW (aW (aW (aW (az (p:=⟨g16,3,none⟩) (az (p:=⟨g16,2,none⟩) (az (p:=⟨g16,1,none⟩) (az (p:=⟨g16,0,none⟩) m10 j6 _) j6 _) j6 _) j6 _) 0 (.int .i64 h_.f0.f0) rfl) 1 (.int .i64 h_.f0.f1) rfl) 2 (.int .i64 h_.f1.f0) rfl) 3 (.int .i64 h_.f1.f1) rfl) j5 _),(aW (az (p:=⟨g10,3,none⟩) (az (p:=⟨g10,2,none⟩) (az (p:=⟨g10,1,none⟩) (az (p:=⟨g10,0,none⟩) (az (p:=⟨g16,3,none⟩) (az (p:=⟨g16,2,none⟩) (az (p:=⟨g16,1,none⟩) (az (p:=⟨g16,0,none⟩) m12 ui _) ui _) ui _) ui _) jr _) jr _) jr _) jr _) 0 (.bool false) rfl),(Marks.set (Marks.set (Marks.set (Marks.set (Marks.set (Marks.set (Marks.set (Marks.set (Marks.set hM m16 (i:=0) _) (aW m16 0 (.int .i64 h_.f0.f0) rfl) (i:=1) _) (aW (aW m16 0 (.int .i64 h_.f0.f0) rfl) 1 (.int .i64 h_.f0.f1) rfl) (i:=2) _) (aW (aW (aW m16 0 (.int .i64 h_.f0.f0) rfl) 1 (.int .i64 h_.f0.f1) rfl) 2 (.int .i64 h_.f1.f0) rfl) (i:=3) _) (az (p:=⟨g16,3,none⟩) (az (p:=⟨g16,2,none⟩) (az (p:=⟨g16,1,none⟩) (az (p:=⟨g16,0,none⟩) m10 j6 _) j6 _) j6 _) j6 _) (i:=0) _) (aW (az (p:=⟨g16,3,none⟩) (az (p:=⟨g16,2,none⟩) (az (p:=⟨g16,1,none⟩) (az (p:=⟨g16,0,none⟩) m10 j6 _) j6 _) j6 _) j6 _) 0 (.int .i64 h_.f0.f0) rfl) (i:=1) _) (aW (aW (az (p:=⟨g16,3,none⟩) (az (p:=⟨g16,2,none⟩) (az (p:=⟨g16,1,none⟩) (az (p:=⟨g16,0,none⟩) m10 j6 _) j6 _) j6 _) j6 _) 0 (.int .i64 h_.f0.f0) rfl) 1 (.int .i64 h_.f0.f1) rfl) (i:=2) _) (aW (aW (aW (az (p:=⟨g16,3,none⟩) (az (p:=⟨g16,2,none⟩) (az (p:=⟨g16,1,none⟩) (az (p:=⟨g16,0,none⟩) m10 j6 _) j6 _) j6 _) j6 _) 0 (.int .i64 h_.f0.f0) rfl) 1 (.int .i64 h_.f0.f1) rfl) 2 (.int .i64 h_.f1.f0) rfl) (i:=3) _) (az (p:=⟨g10,3,none⟩) (az (p:=⟨g10,2,none⟩) (az (p:=⟨g10,1,none⟩) (az (p:=⟨g10,0,none⟩) (az (p:=⟨g16,3,none⟩) (az (p:=⟨g16,2,none⟩) (az (p:=⟨g16,1,none⟩) (az (p:=⟨g16,0,none⟩) m12 ui _) ui _) ui _) ui _) jr _) jr _) jr _) jr _) (i:=0) _),(Below.setCell (p:=⟨g12,0,none⟩) (Below.setCell (p:=⟨g10,3,none⟩) (Below.setCell (p:=⟨g10,2,none⟩) (Below.setCell (p:=⟨g10,1,none⟩) (Below.setCell (p:=⟨g10,0,none⟩) (Below.setCell (p:=⟨g16,3,none⟩) (Below.setCell (p:=⟨g16,2,none⟩) (Below.setCell (p:=⟨g16,1,none⟩) (Below.setCell (p:=⟨g16,0,none⟩) mB Ry _) Ry _) Ry _) Ry _) jl _) jl _) jl _) jl _) GH _)⟩
end Go.Proofs.Ytmhaiihjfgfaoaa.Gl
end
section
namespace Go.Proofs.Ytmhaiihjfgfaoaa.Gl
open Go.RowKit Go.Shelf Go.Proofs.YtmhaiihjfgfaoaaW.PrintWords Go.Proofs.YtmhaiihjfgfaoaaW.PrintLast Go.Proofs.YtmhaiihjfgfaoaaW.PrintMore Go.Proofs.Ytmhaiihjfgfaoaa.Pr Go.Proofs.YtmhaiihjfgfaoaaW.Round
set_option linter.unusedVariables false
set_option linter.unusedSimpArgs false
attribute [local go_sem] fo fq gu gz fu
def BB (y:jI):Prop:=(-5000≤y.f0.f0∧y.f0.f0≤5000)∧(-5000≤y.f0.f1∧y.f0.f1≤5000)∧(-5000≤y.f1.f0∧y.f1.f0≤5000)∧(-5000≤y.f1.f1∧y.f1.f1≤5000)∧y.f0.f0≤y.f0.f1∧y.f1.f0≤y.f1.f1
theorem XZ:∀ (l:List jI) (o:Option jI),(∀ z,o = some z→BB z)→(∀ y ∈ l,BB y)→∀ z,l.foldl Rt o = some z→BB z
 |[],o,h,_=>h
 |y :: l,o,h,hl=>by
  refine XZ l _ (fun z hz=>?_) (fun q hq=>hl q (List.mem_cons_of_mem _ hq))
  have hy:=hl y List.mem_cons_self
  unfold Rt at hz
  cases o with
  |none=>cases hz;exact hy
  |some q =>
   cases hz
   have hq:=h q rfl
   unfold BB vR at*
   dsimp only
   omega
def aip (s:oH):Prop:=∀ c ∈ s.currents,(-5000≤c.f0.f0∧c.f0.f0≤5000)∧(-5000≤c.f0.f1∧c.f0.f1≤5000)∧(-5000≤c.f1.f0∧c.f1.f0≤5000)∧(-5000≤c.f1.f1∧c.f1.f1≤5000)∧c.f0.f0≤c.f0.f1∧c.f1.f0≤c.f1.f1
theorem apq {s:oH} (hc:aip s) (x:jI) (layer t u:Int):BB (Mc s x layer t u):=by
 unfold Mc
 have hz:BB z31:=by unfold BB z31 z27;decide
 cases h:sD (jk s x layer (t / s.slot) ((u - 1) / s.slot+1 - t / s.slot).toNat) with
 |none=>exact hz
 |some z =>
  refine XZ _ none (fun z h=>by cases h) (fun y hy=>?_) z h
  obtain ⟨r,_,hy⟩:=List.mem_flatMap.1 hy
  obtain ⟨c,_,rfl⟩:=List.mem_map.1 hy
  unfold vE
  generalize ((t / s.slot+(r:Int))*s.layers+layer)*(s.nx*s.ny)+c = i
  have:bn s.currents i ∈ s.currents∨bn s.currents i = z40:=by
   unfold bn
   rw [List.getD_eq_getElem?_getD]
   cases h2:s.currents[i.toNat]? with
   |none=>exact .inr rfl
   |some q=>exact .inl (List.mem_of_getElem? h2)
  rcases this with h2|h2
  ·exact hc _ h2
  ·rw [h2]
   unfold BB z40 z27
   decide
end Go.Proofs.Ytmhaiihjfgfaoaa.Gl
end
