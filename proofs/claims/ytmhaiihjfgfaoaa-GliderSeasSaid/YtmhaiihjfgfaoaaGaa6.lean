import Derived.Test.YtmhaiihjfgfaoaaGaa4
import Derived.Test.YtmhaiihjfgfaoaaGaa5
import Derived.Test.YtmhaiihjfgfaoaaGaa1
import Derived.Test.YtmhaiihjfgfaoaaGaa3
section
namespace Go.Proofs.Ytmhaiihjfgfaoaa.Gl
open Go.RowKit Go.Shelf Go.Proofs.YtmhaiihjfgfaoaaW.PrintWords Go.Proofs.YtmhaiihjfgfaoaaW.PrintLast Go.Proofs.YtmhaiihjfgfaoaaW.PrintMore Go.Proofs.Ytmhaiihjfgfaoaa.Pr Go.Proofs.YtmhaiihjfgfaoaaW.Round
set_option linter.unusedVariables false
set_option linter.unusedSimpArgs false
attribute [local go_sem] fo fq gu gz fu
def jV (s:oH) (v:wW) (x:jI):jI:=⟨⟨x.f0.f0 - ((v.speed+s.most)*v.dive+999) / 1000,x.f0.f1+((v.speed+s.most)*v.dive+999) / 1000⟩,⟨x.f1.f0 - ((v.speed+s.most)*v.dive+999) / 1000,x.f1.f1+((v.speed+s.most)*v.dive+999) / 1000⟩⟩
def qM (s:oH) (v:wW) (x:jI) (t:Int):Int:=if (ib s (jV s v x) && nA s t (t+v.dive)) = true then 0 else 5
def AA (s:oH) (v:wW) (x:jI) (t:Int):jI:=if qM s v x t = 0 then jV s v x else z31
def Qy (x:jI):Prop:=(-1099511627776≤x.f0.f0∧x.f0.f0≤1099511627776)∧(-1099511627776≤x.f0.f1∧x.f0.f1≤1099511627776)∧(-1099511627776≤x.f1.f0∧x.f1.f0≤1099511627776)∧(-1099511627776≤x.f1.f1∧x.f1.f1≤1099511627776)
set_option maxRecDepth 100000 in
set_option maxHeartbeats 4000000 in
theorem Y1 (b:Nat) (s:oH) (v:wW) (x:jI) (t:Int) (w:World) (hT:ma w b s v) (hS:Ar s) (hV:MG v) (hx:Qy x) (ht0:0≤t) (ht1:t≤1099511627776):
 Calls Try.prog 99 #[.pointer (some ⟨b,0,none⟩),.agg #[.int .i64 x.f0.f0,.int .i64 x.f0.f1,.int .i64 x.f1.f0,.int .i64 x.f1.f1],.int .i64 t] w (vP (.tuple #[.agg #[.int .i64 (AA s v x t).f0.f0,.int .i64 (AA s v x t).f0.f1,.int .i64 (AA s v x t).f1.f0,.int .i64 (AA s v x t).f1.f1],.int .i64 (qM s v x t)]) w):=by
 have vT:=Try.underlying31
 have sU:=Try.underlying27
 have hT0:=hT
 obtain ⟨A7,c7,A8,c8,mT,_⟩:=hT0
 have hm:=hS.most
 have hsp:=hV.speed
 have hdv:=hV.dive
 have p1:=iV (show 0≤v.speed+s.most by omega) (show v.speed+s.most≤10000 by omega) (show 0≤v.dive by omega) hdv.2
 have kC:=fun W (h:ma W b s v)=>Gz b s v (jV s v x) W h hS
 have kN:=fun W (h:ma W b s v)=>Nr b s v t (t+v.dive) W h hS
 have HE:Hid (qM s v x t = if (ib s (jV s v x) && nA s t (t+v.dive)) = true then 0 else 5):=Lib.hid rfl
 have HV:Hid (AA s v x t = if qM s v x t = 0 then jV s v x else z31):=Lib.hid rfl
 have hG:jV s v x = ⟨⟨x.f0.f0 - ((v.speed+s.most)*v.dive+999) / 1000,x.f0.f1+((v.speed+s.most)*v.dive+999) / 1000⟩,⟨x.f1.f0 - ((v.speed+s.most)*v.dive+999) / 1000,x.f1.f1+((v.speed+s.most)*v.dive+999) / 1000⟩⟩:=rfl
 obtain ⟨x0,x1,x2,x3⟩:=hx
 clear hS hV
 go_enter Try.func99,Try.ntmps99
 go_wp2_with fail
 have Bn:=aU mT
 have m4:iT ((w.alloc (.cells #[.int .i64 x.f0.f0,.int .i64 x.f0.f1,.int .i64 x.f1.f0,.int .i64 x.f1.f1] 31)).alloc (.cells #[.int .i64 0,.int .i64 0,.int .i64 0,.int .i64 0] 31)) (w.heap.size) #[.int .i64 x.f0.f0,.int .i64 x.f0.f1,.int .i64 x.f1.f0,.int .i64 x.f1.f1] 31:=(af (by have h_:=fK w (.cells #[.int .i64 x.f0.f0,.int .i64 x.f0.f1,.int .i64 x.f1.f0,.int .i64 x.f1.f1] 31);first|exact h_|(simp only [World.size_alloc] at h_;exact h_)) _)
 have m6:iT ((w.alloc (.cells #[.int .i64 x.f0.f0,.int .i64 x.f0.f1,.int .i64 x.f1.f0,.int .i64 x.f1.f1] 31)).alloc (.cells #[.int .i64 0,.int .i64 0,.int .i64 0,.int .i64 0] 31)) (w.heap.size+1) #[.int .i64 0,.int .i64 0,.int .i64 0,.int .i64 0] 31:=(by have h_:=fK (w.alloc (.cells #[.int .i64 x.f0.f0,.int .i64 x.f0.f1,.int .i64 x.f1.f0,.int .i64 x.f1.f1] 31)) (.cells #[.int .i64 0,.int .i64 0,.int .i64 0,.int .i64 0] 31);first|exact h_|(simp only [World.size_alloc] at h_;exact h_))
 replace mT:iT ((w.alloc (.cells #[.int .i64 x.f0.f0,.int .i64 x.f0.f1,.int .i64 x.f1.f0,.int .i64 x.f1.f1] 31)).alloc (.cells #[.int .i64 0,.int .i64 0,.int .i64 0,.int .i64 0] 31)) b #[.int .i64 s.nx,.int .i64 s.ny,.int .i64 s.cell,.int .i64 s.slot,.int .i64 s.slots,.int .i64 s.layers,.int .i64 s.most,.slice A7 s.shores.length c7,.slice A8 s.currents.length c8,.int .i64 v.speed,.int .i64 v.dive,.int .i64 v.use.f0,.int .i64 v.use.f1,.int .i64 v.drift.f0,.int .i64 v.drift.f1,.int .i64 v.reserve] 110:=(af (af mT _) _)
 have mB:Below w.heap.size w ((w.alloc (.cells #[.int .i64 x.f0.f0,.int .i64 x.f0.f1,.int .i64 x.f1.f0,.int .i64 x.f1.f1] 31)).alloc (.cells #[.int .i64 0,.int .i64 0,.int .i64 0,.int .i64 0] 31)):=(au (au (Below.refl w.heap.size w) _) _)
 have qi:w.heap.size≤w.heap.size:=Nat.le_refl _
 generalize zx:((w.alloc (.cells #[.int .i64 x.f0.f0,.int .i64 x.f0.f1,.int .i64 x.f1.f0,.int .i64 x.f1.f1] 31)).alloc (.cells #[.int .i64 0,.int .i64 0,.int .i64 0,.int .i64 0] 31)) = W1 at mT m4 m6 mB ⊢
 clear zx
 generalize hg4:w.heap.size = g4 at m4 m6 ⊢
 have aiq:b≠g4:=by omega
 have aBJ:g4≠b:=aiq.symm
 have hG4:w.heap.size≤g4:=by omega
 generalize hg6:g4+1 = g6 at m6 ⊢
 have IL:b≠g6:=by omega
 have TU:g4≠g6:=by omega
 have TT:g6≠b:=IL.symm
 have air:g6≠g4:=TU.symm
 have Rv:w.heap.size≤g6:=by omega
 clear qi Bn
 try clear hg6
 try clear hg4
 have DJ:w.heap.size≤W1.heap.size:=mB.size
 have cT6:W1.cell? ⟨b,6,none⟩ = some (.int .i64 s.most):=(aa mT 6).trans rfl
 have cT9:W1.cell? ⟨b,9,none⟩ = some (.int .i64 v.speed):=(aa mT 9).trans rfl
 have ais:W1.cell? ⟨b,10,none⟩ = some (.int .i64 v.dive):=(aa mT 10).trans rfl
 have q1:wrap64 (v.speed+s.most) = v.speed+s.most:=by unfold wrap64;omega
 have q2:wrap64 ((v.speed+s.most)*v.dive) = (v.speed+s.most)*v.dive:=by unfold wrap64;omega
 have q3:wrap64 ((v.speed+s.most)*v.dive+999) = (v.speed+s.most)*v.dive+999:=by unfold wrap64;omega
 have q4:Int.tdiv ((v.speed+s.most)*v.dive+999) 1000 = ((v.speed+s.most)*v.dive+999) / 1000:=Int.tdiv_eq_ediv_of_nonneg (by omega)
 have hby:0≤((v.speed+s.most)*v.dive+999) / 1000∧((v.speed+s.most)*v.dive+999) / 1000≤2000000:=by omega
 go_quiet (fail)
 replace mT:=ag mT nq
 replace m4:=ag m4 nq
 replace m6:=ag m6 nq
 replace mB:=ah mB nq
 generalize hWq:World.drewN _ nq = W2 at mT m4 m6 mB ⊢
 clear hWq
 have zy:w.heap.size≤W2.heap.size:=mB.size
 clear cT6 cT9 ais q1 q2 q3 q4
 generalize ((v.speed+s.most)*v.dive+999) / 1000 = y at*
 clear p1
 generalize jV s v x = G at*
 subst hG
 dsimp only at kC
 have aBK:=(aa m4 0).trans rfl
 have aBL:=(aa m4 1).trans rfl
 have aBM:=(aa m4 2).trans rfl
 have aBN:=(aa m4 3).trans rfl
 go_wp2_with fail
 clear aBK
 clear aBL
 clear aBM
 clear aBN
 have Bn:=aU mT
 have aBO:=aU m4
 have Qx:=aU m6
 have m9:iT (W2.alloc (.cells #[.int .i64 (x.f0.f0 - y),.int .i64 (x.f0.f1+y),.int .i64 (x.f1.f0 - y),.int .i64 (x.f1.f1+y)] 31)) (W2.heap.size) #[.int .i64 (x.f0.f0 - y),.int .i64 (x.f0.f1+y),.int .i64 (x.f1.f0 - y),.int .i64 (x.f1.f1+y)] 31:=(by have h_:=fK W2 (.cells #[.int .i64 (x.f0.f0 - y),.int .i64 (x.f0.f1+y),.int .i64 (x.f1.f0 - y),.int .i64 (x.f1.f1+y)] 31);first|exact h_|(simp only [World.size_alloc] at h_;exact h_))
 replace mT:iT (W2.alloc (.cells #[.int .i64 (x.f0.f0 - y),.int .i64 (x.f0.f1+y),.int .i64 (x.f1.f0 - y),.int .i64 (x.f1.f1+y)] 31)) b #[.int .i64 s.nx,.int .i64 s.ny,.int .i64 s.cell,.int .i64 s.slot,.int .i64 s.slots,.int .i64 s.layers,.int .i64 s.most,.slice A7 s.shores.length c7,.slice A8 s.currents.length c8,.int .i64 v.speed,.int .i64 v.dive,.int .i64 v.use.f0,.int .i64 v.use.f1,.int .i64 v.drift.f0,.int .i64 v.drift.f1,.int .i64 v.reserve] 110:=(af mT _)
 replace m4:iT (W2.alloc (.cells #[.int .i64 (x.f0.f0 - y),.int .i64 (x.f0.f1+y),.int .i64 (x.f1.f0 - y),.int .i64 (x.f1.f1+y)] 31)) g4 #[.int .i64 x.f0.f0,.int .i64 x.f0.f1,.int .i64 x.f1.f0,.int .i64 x.f1.f1] 31:=(af m4 _)
 replace m6:iT (W2.alloc (.cells #[.int .i64 (x.f0.f0 - y),.int .i64 (x.f0.f1+y),.int .i64 (x.f1.f0 - y),.int .i64 (x.f1.f1+y)] 31)) g6 #[.int .i64 0,.int .i64 0,.int .i64 0,.int .i64 0] 31:=(af m6 _)
 replace mB:Below w.heap.size w (W2.alloc (.cells #[.int .i64 (x.f0.f0 - y),.int .i64 (x.f0.f1+y),.int .i64 (x.f1.f0 - y),.int .i64 (x.f1.f1+y)] 31)):=(au mB _)
 have qi:w.heap.size≤W2.heap.size:=zy
 generalize zx:(W2.alloc (.cells #[.int .i64 (x.f0.f0 - y),.int .i64 (x.f0.f1+y),.int .i64 (x.f1.f0 - y),.int .i64 (x.f1.f1+y)] 31)) = W3 at mT m4 m6 m9 mB ⊢
 clear zx
 generalize hg9:W2.heap.size = g9 at m9 ⊢
 have LK:b≠g9:=by omega
 have ait:g4≠g9:=by omega
 have LY:g6≠g9:=by omega
 have aaw:g9≠b:=LK.symm
 have aBP:g9≠g4:=ait.symm
 have aaU:g9≠g6:=LY.symm
 have hG9:w.heap.size≤g9:=by omega
 clear qi Bn aBO Qx
 try clear hg9
 have Jc:w.heap.size≤W3.heap.size:=mB.size
 have hcon:=kC W3 (hT.below mB)
 (with_reducible refine hcon.mono ?_)
 clear hcon
 rintro e W4 ⟨rfl,hb⟩
 replace mT:=ax mT hb
 replace m4:=ax m4 hb
 replace m6:=ax m6 hb
 replace m9:=ax m9 hb
 replace mB:=ay mB hb
 clear hb
 have Rp:w.heap.size≤W4.heap.size:=mB.size
 cases hc:ib s ⟨⟨x.f0.f0 - y,x.f0.f1+y⟩,⟨x.f1.f0 - y,x.f1.f1+y⟩⟩ with
 |false =>
  have HZ:Hid (qM s v x t = 5):=Lib.hid (by rw [HE.out,hc];rfl)
  clear HE
  have Br:Hid (AA s v x t = z31):=Lib.hid (HV.out.trans (by rw [HZ.out];rfl))
  clear HV
  have IM:=(aa m6 0).trans rfl
  have IP:=(aa m6 1).trans rfl
  have IQ:=(aa m6 2).trans rfl
  have IU:=(aa m6 3).trans rfl
  have apr:=ae m6 0
  have aps:=ae m6 1
  have apt:=ae m6 2
  have apu:=ae m6 3
  go_wp2
  exact bodyPost_ret (iw rfl _ _ g6 31 #[.int .i64 0,.int .i64 0,.int .i64 0,.int .i64 0] (0,0) _ rfl (aW (aW (aW (aW m6 0 (.int .i64 0) rfl) 1 (.int .i64 0) rfl) 2 (.int .i64 0) rfl) 3 (.int .i64 0) rfl) Try.underlying31 rfl (by kernel_rfl)) rfl ⟨by rw [Br.out,HZ.out];rfl,(Below.setCell (p:=⟨g6,3,none⟩) (Below.setCell (p:=⟨g6,2,none⟩) (Below.setCell (p:=⟨g6,1,none⟩) (Below.setCell (p:=⟨g6,0,none⟩) mB Rv _) Rv _) Rv _) Rv _)⟩
 |true =>
  have HC:=Lib.hid hc
  clear hc
  have ais:W4.cell? ⟨b,10,none⟩ = some (.int .i64 v.dive):=(aa mT 10).trans rfl
  go_wp2_with fail
  clear ais
  have hcon:=kN W4 (hT.below mB)
  (with_reducible refine hcon.mono ?_)
  clear hcon
  rintro e W5 ⟨rfl,hb⟩
  replace mT:=ax mT hb
  replace m4:=ax m4 hb
  replace m6:=ax m6 hb
  replace m9:=ax m9 hb
  replace mB:=ay mB hb
  clear hb
  have XG:w.heap.size≤W5.heap.size:=mB.size
  cases hk:nA s t (t+v.dive) with
  |false =>
   have HZ:Hid (qM s v x t = 5):=Lib.hid (by rw [HE.out,HC.out,hk];rfl)
   clear HE
   have Br:Hid (AA s v x t = z31):=Lib.hid (HV.out.trans (by rw [HZ.out];rfl))
   clear HV
   have IM:=(aa m6 0).trans rfl
   have IP:=(aa m6 1).trans rfl
   have IQ:=(aa m6 2).trans rfl
   have IU:=(aa m6 3).trans rfl
   have apr:=ae m6 0
   have aps:=ae m6 1
   have apt:=ae m6 2
   have apu:=ae m6 3
   go_wp2
   exact bodyPost_ret (iw rfl _ _ g6 31 #[.int .i64 0,.int .i64 0,.int .i64 0,.int .i64 0] (0,0) _ rfl (aW (aW (aW (aW m6 0 (.int .i64 0) rfl) 1 (.int .i64 0) rfl) 2 (.int .i64 0) rfl) 3 (.int .i64 0) rfl) Try.underlying31 rfl (by kernel_rfl)) rfl ⟨by rw [Br.out,HZ.out];rfl,(Below.setCell (p:=⟨g6,3,none⟩) (Below.setCell (p:=⟨g6,2,none⟩) (Below.setCell (p:=⟨g6,1,none⟩) (Below.setCell (p:=⟨g6,0,none⟩) mB Rv _) Rv _) Rv _) Rv _)⟩
  |true =>
   have HZ:Hid (qM s v x t = 0):=Lib.hid (by rw [HE.out,HC.out,hk];rfl)
   clear HE hk
   have Br:=Lib.hid (HV.out.trans (if_pos HZ.out))
   clear HV
   have IM:=(aa m6 0).trans rfl
   have IP:=(aa m6 1).trans rfl
   have IQ:=(aa m6 2).trans rfl
   have IU:=(aa m6 3).trans rfl
   have aay:=(aa m9 0).trans rfl
   have aaz:=(aa m9 1).trans rfl
   have aFP:=(aa m9 2).trans rfl
   have aFQ:=(aa m9 3).trans rfl
   have apr:=ae m6 0
   have aps:=ae m6 1
   have apt:=ae m6 2
   have apu:=ae m6 3
   go_wp2
   exact bodyPost_ret (iw rfl _ _ g6 31 #[.int .i64 (x.f0.f0 - y),.int .i64 (x.f0.f1+y),.int .i64 (x.f1.f0 - y),.int .i64 (x.f1.f1+y)] (0,0) _ rfl (aW (aW (aW (aW m6 0 (.int .i64 (x.f0.f0 - y)) rfl) 1 (.int .i64 (x.f0.f1+y)) rfl) 2 (.int .i64 (x.f1.f0 - y)) rfl) 3 (.int .i64 (x.f1.f1+y)) rfl) Try.underlying31 rfl (by kernel_rfl)) rfl ⟨by rw [Br.out,HZ.out];rfl,(Below.setCell (p:=⟨g6,3,none⟩) (Below.setCell (p:=⟨g6,2,none⟩) (Below.setCell (p:=⟨g6,1,none⟩) (Below.setCell (p:=⟨g6,0,none⟩) mB Rv _) Rv _) Rv _) Rv _)⟩
end Go.Proofs.Ytmhaiihjfgfaoaa.Gl
end
section
namespace Go.Proofs.Ytmhaiihjfgfaoaa.Gl
open Go.RowKit Go.Shelf Go.Proofs.YtmhaiihjfgfaoaaW.PrintWords Go.Proofs.YtmhaiihjfgfaoaaW.PrintLast Go.Proofs.YtmhaiihjfgfaoaaW.PrintMore Go.Proofs.Ytmhaiihjfgfaoaa.Pr Go.Proofs.YtmhaiihjfgfaoaaW.Round
set_option linter.unusedVariables false
set_option linter.unusedSimpArgs false
attribute [local go_sem] fo fq gu gz fu
def GJ (h:Int):Int × Int:=if h = 0 then (0,1000) else if h = 1 then (707,707) else if h = 2 then (1000,0) else if h = 3 then (707,-707) else if h = 4 then (0,-1000) else if h = 5 then (-707,-707) else if h = 6 then (-1000,0) else if h = 7 then (-707,707) else if h = 8 then (0,0) else (0,0)
theorem afx (h:Int):(-1000≤(GJ h).1∧(GJ h).1≤1000)∧(-1000≤(GJ h).2∧(GJ h).2≤1000):=by
 unfold GJ
 repeat' split
 all_goals decide
set_option maxRecDepth 100000 in
set_option maxHeartbeats 2000000 in
theorem Rz (w:World):Calls Try.prog 130 #[] w (vP (.agg #[.int .i64 0,.int .i64 1000,.int .i64 707,.int .i64 707,.int .i64 1000,.int .i64 0,.int .i64 707,.int .i64 (-707),.int .i64 0,.int .i64 (-1000),.int .i64 (-707),.int .i64 (-707),.int .i64 (-1000),.int .i64 0,.int .i64 (-707),.int .i64 707,.int .i64 0,.int .i64 0]) w):=by
 have apv:=Try.underlying162
 have apw:=Try.underlying161
 go_enter Try.func130,Try.ntmps130
 go_wp2
 exact bodyPost_ret (results_cell_row rfl _ _ w.heap.size 162 #[.int .i64 0,.int .i64 1000,.int .i64 707,.int .i64 707,.int .i64 1000,.int .i64 0,.int .i64 707,.int .i64 (-707),.int .i64 0,.int .i64 (-1000),.int .i64 (-707),.int .i64 (-707),.int .i64 (-1000),.int .i64 0,.int .i64 (-707),.int .i64 707,.int .i64 0,.int .i64 0] (0,0) _ rfl (fK w _) Try.underlying162 rfl (by kernel_rfl)) rfl ⟨rfl,au (Below.refl _ w) _⟩
def AQ (s:oH) (v:wW) (x rb:jI) (t heading layer:Int):jI:=⟨pG v.dive x.f0 ((GJ heading).1*v.speed) (Mc s rb layer t (t+v.dive)).f0,pG v.dive x.f1 ((GJ heading).2*v.speed) (Mc s rb layer t (t+v.dive)).f1⟩
set_option maxRecDepth 100000 in
set_option maxHeartbeats 8000000 in
theorem aaV (b:Nat) (se:oH) (v:wW) (x rb:jI) (t hd layer:Int) (w:World) (hT:ma w b se v) (hS:Ar se) (hV:MG v) (hcu:(se.currents.length:Int) = se.slots*se.layers*(se.nx*se.ny)) (hcb:aip se) (hx:Qy x) (hr:Jd se rb) (ht0:0≤t) (ht2:t+v.dive≤se.slots*se.slot) (hh0:0≤hd) (hh1:hd≤8) (hl0:0≤layer) (hl1:layer < se.layers):
 Calls Try.prog 101 #[.pointer (some ⟨b,0,none⟩),.agg #[.int .i64 x.f0.f0,.int .i64 x.f0.f1,.int .i64 x.f1.f0,.int .i64 x.f1.f1],.agg #[.int .i64 rb.f0.f0,.int .i64 rb.f0.f1,.int .i64 rb.f1.f0,.int .i64 rb.f1.f1],.int .i64 t,.agg #[.int .i64 hd,.int .i64 layer]] w (vP (.agg #[.int .i64 (AQ se v x rb t hd layer).f0.f0,.int .i64 (AQ se v x rb t hd layer).f0.f1,.int .i64 (AQ se v x rb t hd layer).f1.f0,.int .i64 (AQ se v x rb t hd layer).f1.f1]) w):=by
 have vT:=Try.underlying31
 have sU:=Try.underlying27
 have apw:=Try.underlying161
 have apv:=Try.underlying162
 have Ze:=Try.underlying33
 have hdv:=hV.dive
 have hsp:=hV.speed
 have hss:=iV (show 0≤se.slots by have:=hS.slots;omega) hS.slots.2 (show 0≤se.slot by have:=hS.slot;omega) hS.slot.2
 have hix:∀ W_:World,(Instr.index 162 (.agg #[.int .i64 0,.int .i64 1000,.int .i64 707,.int .i64 707,.int .i64 1000,.int .i64 0,.int .i64 707,.int .i64 (-707),.int .i64 0,.int .i64 (-1000),.int .i64 (-707),.int .i64 (-707),.int .i64 (-1000),.int .i64 0,.int .i64 (-707),.int .i64 707,.int .i64 0,.int .i64 0]) (.int .i64 hd)).run Try.prog W_ = .ok (.agg #[.int .i64 (GJ hd).1,.int .i64 (GJ hd).2]) W_:=by
  have h9:hd = 0∨hd = 1∨hd = 2∨hd = 3∨hd = 4∨hd = 5∨hd = 6∨hd = 7∨hd = 8:=by omega
  rcases h9 with rfl|rfl|rfl|rfl|rfl|rfl|rfl|rfl|rfl <;> exact fun W_=>by kernel_rfl
 have hdi:=afx hd
 have hai:=apq hcb rb layer t (t+v.dive)
 have kA:=fun u_ (hu_:u_ = t+v.dive) W (h:ma W b se v)=>aaF b se v rb layer t u_ W h hS hr hcu hl0 hl1 ht0 (by omega) (by omega)
 have hyy:∀ u_,u_ = t+v.dive→Mc se rb layer t u_ = Mc se rb layer t (t+v.dive):=fun u_ h=>by rw [h]
 have HR:Hid (AQ se v x rb t hd layer = ⟨pG v.dive x.f0 ((GJ hd).1*v.speed) (Mc se rb layer t (t+v.dive)).f0,pG v.dive x.f1 ((GJ hd).2*v.speed) (Mc se rb layer t (t+v.dive)).f1⟩):=Lib.hid rfl
 have kA:=fun u_ (hu_:u_ = t+v.dive) W (h:ma W b se v)=>by have h1:=kA u_ hu_ W h;rw [hyy u_ hu_] at h1;exact h1
 clear hyy
 generalize Mc se rb layer t (t+v.dive) = y at*
 generalize GJ hd = d at*
 obtain ⟨d0,d1⟩:=d
 dsimp only at hdi hix HR
 have m0:=KP (a:=d0) (b:=v.speed) (m:=1000) (n:=5000) hdi.1.1 hdi.1.2 hsp.1 hsp.2 (by omega)
 have m1:=KP (a:=d1) (b:=v.speed) (m:=1000) (n:=5000) hdi.2.1 hdi.2.2 hsp.1 hsp.2 (by omega)
 have kS0:=fun z_ (hz_:z_ = d0*v.speed) W (h:ma W b se v)=>Nt b se v x.f0 z_ y.f0 W h hV hx.1 hx.2.1 (by omega) hai.1 hai.2.1
 have kS1:=fun z_ (hz_:z_ = d1*v.speed) W (h:ma W b se v)=>Nt b se v x.f1 z_ y.f1 W h hV hx.2.2.1 hx.2.2.2 (by omega) hai.2.2.1 hai.2.2.2.1
 have hT0:=hT
 obtain ⟨A7,c7,A8,c8,mT,_⟩:=hT0
 have w1:wrap64 (t+v.dive) = t+v.dive:=by unfold wrap64;omega
 have w2:wrap64 (d0*v.speed) = d0*v.speed:=by unfold wrap64;omega
 have w3:wrap64 (d1*v.speed) = d1*v.speed:=by unfold wrap64;omega
 clear hx hr hS hV hcu hcb hai hdi hss m0 m1 hdv hsp ht0 ht2 hh0 hh1 hl0 hl1
 go_enter Try.func101,Try.ntmps101
 go_wp2_with fail
 have Bn:=aU mT
 have m6:iT ((((w.alloc (.cells #[.int .i64 x.f0.f0,.int .i64 x.f0.f1,.int .i64 x.f1.f0,.int .i64 x.f1.f1] 31)).alloc (.cells #[.int .i64 rb.f0.f0,.int .i64 rb.f0.f1,.int .i64 rb.f1.f0,.int .i64 rb.f1.f1] 31)).alloc (.cells #[.int .i64 hd,.int .i64 layer] 33)).alloc (.cells #[.int .i64 0,.int .i64 0,.int .i64 0,.int .i64 0] 31)) (w.heap.size) #[.int .i64 x.f0.f0,.int .i64 x.f0.f1,.int .i64 x.f1.f0,.int .i64 x.f1.f1] 31:=(af (af (af (by have h_:=fK w (.cells #[.int .i64 x.f0.f0,.int .i64 x.f0.f1,.int .i64 x.f1.f0,.int .i64 x.f1.f1] 31);first|exact h_|(simp only [World.size_alloc] at h_;exact h_)) _) _) _)
 have m7:iT ((((w.alloc (.cells #[.int .i64 x.f0.f0,.int .i64 x.f0.f1,.int .i64 x.f1.f0,.int .i64 x.f1.f1] 31)).alloc (.cells #[.int .i64 rb.f0.f0,.int .i64 rb.f0.f1,.int .i64 rb.f1.f0,.int .i64 rb.f1.f1] 31)).alloc (.cells #[.int .i64 hd,.int .i64 layer] 33)).alloc (.cells #[.int .i64 0,.int .i64 0,.int .i64 0,.int .i64 0] 31)) (w.heap.size+1) #[.int .i64 rb.f0.f0,.int .i64 rb.f0.f1,.int .i64 rb.f1.f0,.int .i64 rb.f1.f1] 31:=(af (af (by have h_:=fK (w.alloc (.cells #[.int .i64 x.f0.f0,.int .i64 x.f0.f1,.int .i64 x.f1.f0,.int .i64 x.f1.f1] 31)) (.cells #[.int .i64 rb.f0.f0,.int .i64 rb.f0.f1,.int .i64 rb.f1.f0,.int .i64 rb.f1.f1] 31);first|exact h_|(simp only [World.size_alloc] at h_;exact h_)) _) _)
 have m9:iT ((((w.alloc (.cells #[.int .i64 x.f0.f0,.int .i64 x.f0.f1,.int .i64 x.f1.f0,.int .i64 x.f1.f1] 31)).alloc (.cells #[.int .i64 rb.f0.f0,.int .i64 rb.f0.f1,.int .i64 rb.f1.f0,.int .i64 rb.f1.f1] 31)).alloc (.cells #[.int .i64 hd,.int .i64 layer] 33)).alloc (.cells #[.int .i64 0,.int .i64 0,.int .i64 0,.int .i64 0] 31)) (w.heap.size+1+1) #[.int .i64 hd,.int .i64 layer] 33:=(af (by have h_:=fK ((w.alloc (.cells #[.int .i64 x.f0.f0,.int .i64 x.f0.f1,.int .i64 x.f1.f0,.int .i64 x.f1.f1] 31)).alloc (.cells #[.int .i64 rb.f0.f0,.int .i64 rb.f0.f1,.int .i64 rb.f1.f0,.int .i64 rb.f1.f1] 31)) (.cells #[.int .i64 hd,.int .i64 layer] 33);first|exact h_|(simp only [World.size_alloc] at h_;exact h_)) _)
 have m10:iT ((((w.alloc (.cells #[.int .i64 x.f0.f0,.int .i64 x.f0.f1,.int .i64 x.f1.f0,.int .i64 x.f1.f1] 31)).alloc (.cells #[.int .i64 rb.f0.f0,.int .i64 rb.f0.f1,.int .i64 rb.f1.f0,.int .i64 rb.f1.f1] 31)).alloc (.cells #[.int .i64 hd,.int .i64 layer] 33)).alloc (.cells #[.int .i64 0,.int .i64 0,.int .i64 0,.int .i64 0] 31)) (w.heap.size+1+1+1) #[.int .i64 0,.int .i64 0,.int .i64 0,.int .i64 0] 31:=(by have h_:=fK (((w.alloc (.cells #[.int .i64 x.f0.f0,.int .i64 x.f0.f1,.int .i64 x.f1.f0,.int .i64 x.f1.f1] 31)).alloc (.cells #[.int .i64 rb.f0.f0,.int .i64 rb.f0.f1,.int .i64 rb.f1.f0,.int .i64 rb.f1.f1] 31)).alloc (.cells #[.int .i64 hd,.int .i64 layer] 33)) (.cells #[.int .i64 0,.int .i64 0,.int .i64 0,.int .i64 0] 31);first|exact h_|(simp only [World.size_alloc] at h_;exact h_))
 replace mT:iT ((((w.alloc (.cells #[.int .i64 x.f0.f0,.int .i64 x.f0.f1,.int .i64 x.f1.f0,.int .i64 x.f1.f1] 31)).alloc (.cells #[.int .i64 rb.f0.f0,.int .i64 rb.f0.f1,.int .i64 rb.f1.f0,.int .i64 rb.f1.f1] 31)).alloc (.cells #[.int .i64 hd,.int .i64 layer] 33)).alloc (.cells #[.int .i64 0,.int .i64 0,.int .i64 0,.int .i64 0] 31)) b #[.int .i64 se.nx,.int .i64 se.ny,.int .i64 se.cell,.int .i64 se.slot,.int .i64 se.slots,.int .i64 se.layers,.int .i64 se.most,.slice A7 se.shores.length c7,.slice A8 se.currents.length c8,.int .i64 v.speed,.int .i64 v.dive,.int .i64 v.use.f0,.int .i64 v.use.f1,.int .i64 v.drift.f0,.int .i64 v.drift.f1,.int .i64 v.reserve] 110:=(af (af (af (af mT _) _) _) _)
 have mB:Below w.heap.size w ((((w.alloc (.cells #[.int .i64 x.f0.f0,.int .i64 x.f0.f1,.int .i64 x.f1.f0,.int .i64 x.f1.f1] 31)).alloc (.cells #[.int .i64 rb.f0.f0,.int .i64 rb.f0.f1,.int .i64 rb.f1.f0,.int .i64 rb.f1.f1] 31)).alloc (.cells #[.int .i64 hd,.int .i64 layer] 33)).alloc (.cells #[.int .i64 0,.int .i64 0,.int .i64 0,.int .i64 0] 31)):=(au (au (au (au (Below.refl w.heap.size w) _) _) _) _)
 have qi:w.heap.size≤w.heap.size:=Nat.le_refl _
 generalize zx:((((w.alloc (.cells #[.int .i64 x.f0.f0,.int .i64 x.f0.f1,.int .i64 x.f1.f0,.int .i64 x.f1.f1] 31)).alloc (.cells #[.int .i64 rb.f0.f0,.int .i64 rb.f0.f1,.int .i64 rb.f1.f0,.int .i64 rb.f1.f1] 31)).alloc (.cells #[.int .i64 hd,.int .i64 layer] 33)).alloc (.cells #[.int .i64 0,.int .i64 0,.int .i64 0,.int .i64 0] 31)) = W1 at mT m6 m7 m9 m10 mB ⊢
 clear zx
 generalize hg6:w.heap.size = g6 at m6 m7 m9 m10 ⊢
 have IL:b≠g6:=by omega
 have TT:g6≠b:=IL.symm
 have Rv:w.heap.size≤g6:=by omega
 generalize hg7:g6+1 = g7 at m7 m9 m10 ⊢
 have TH:b≠g7:=by omega
 have TV:g6≠g7:=by omega
 have ahW:g7≠b:=TH.symm
 have aiu:g7≠g6:=TV.symm
 have hG7:w.heap.size≤g7:=by omega
 generalize hg9:g7+1 = g9 at m9 m10 ⊢
 have LK:b≠g9:=by omega
 have LY:g6≠g9:=by omega
 have LM:g7≠g9:=by omega
 have aaw:g9≠b:=LK.symm
 have aaU:g9≠g6:=LY.symm
 have aax:g9≠g7:=LM.symm
 have hG9:w.heap.size≤g9:=by omega
 generalize Qw:g9+1 = g10 at m10 ⊢
 have KQ:b≠g10:=by omega
 have mV:g6≠g10:=by omega
 have GK:g7≠g10:=by omega
 have Qz:g9≠g10:=by omega
 have XL:g10≠b:=KQ.symm
 have KS:g10≠g6:=mV.symm
 have X0:g10≠g7:=GK.symm
 have afy:g10≠g9:=Qz.symm
 have jl:w.heap.size≤g10:=by omega
 clear qi Bn
 try clear Qw
 try clear hg9
 try clear hg7
 try clear hg6
 have DJ:w.heap.size≤W1.heap.size:=mB.size
 replace mT:=ai mT
 replace m6:=ai m6
 replace m7:=ai m7
 replace m9:=ai m9
 replace m10:=ai m10
 replace mB:=av mB
 refine qg (n:=6) (S:=fun w'=>w'.cell? ⟨g9,0,none⟩ = some (.int .i64 hd)∧w'.cell? ⟨g9,1,none⟩ = some (.int .i64 layer)) (ds:=[5]) #[false,false,false,false,false,false] (by kernel_rfl) rfl rfl ⟨((aa m9 0).trans rfl),((aa m9 1).trans rfl)⟩ (fun hHeld=>?_)
 generalize hWd:World.drew _ = Wx at mT m6 m7 m9 m10 mB hHeld ⊢
 clear hWd
 refine bU (i:=1) (N:=some 14) (v:=?_) (a':=?_) #[false,true,false,false,false,false] rfl rfl (by kernel_rfl) (fun _ _ _ h=>h) (Or.inl ⟨by rfl,?_⟩) ?_ ?_
 rotate_left
 ·intro w'
  go_simp
  with_reducible rfl
 rotate_left
 ·simp only [Act.put,List.setIfInBounds_toArray,List.set_cons_zero,List.set_cons_succ,aZ,bf]
  rfl
 refine gB (i:=2) (N:=some 15) (v:=?_) (a':=?_) #[false,true,true,false,false,false] rfl rfl (by kernel_rfl) (fun _ _ _ h=>h) (Or.inl ⟨by rfl,?_⟩) hHeld ?_ ?_
 rotate_left
 ·rintro w' ⟨s0,s1⟩
  go_simp
  with_reducible rfl
 rotate_left
 ·simp only [Act.put,List.setIfInBounds_toArray,List.set_cons_zero,List.set_cons_succ,aZ,bf]
  rfl
 refine ZY (σ:=Nat) 1 #[true,true,true,true,true,false] (fun s=>[(13,.agg #[.int .i64 0,.int .i64 1000,.int .i64 707,.int .i64 707,.int .i64 1000,.int .i64 0,.int .i64 707,.int .i64 (-707),.int .i64 0,.int .i64 (-1000),.int .i64 (-707),.int .i64 (-707),.int .i64 (-1000),.int .i64 0,.int .i64 (-707),.int .i64 707,.int .i64 0,.int .i64 0]),(16,.agg #[.int .i64 d0,.int .i64 d1]),(11,.pointer (some ⟨s,0,none⟩))]) (fun s w'=>iT w' b #[.int .i64 se.nx,.int .i64 se.ny,.int .i64 se.cell,.int .i64 se.slot,.int .i64 se.slots,.int .i64 se.layers,.int .i64 se.most,.slice A7 se.shores.length c7,.slice A8 se.currents.length c8,.int .i64 v.speed,.int .i64 v.dive,.int .i64 v.use.f0,.int .i64 v.use.f1,.int .i64 v.drift.f0,.int .i64 v.drift.f1,.int .i64 v.reserve] 110∧iT w' g6 #[.int .i64 x.f0.f0,.int .i64 x.f0.f1,.int .i64 x.f1.f0,.int .i64 x.f1.f1] 31∧iT w' g7 #[.int .i64 rb.f0.f0,.int .i64 rb.f0.f1,.int .i64 rb.f1.f0,.int .i64 rb.f1.f1] 31∧iT w' g9 #[.int .i64 hd,.int .i64 layer] 33∧iT w' g10 #[.int .i64 0,.int .i64 0,.int .i64 0,.int .i64 0] 31∧iT w' (s) #[.int .i64 0,.int .i64 0] 161∧Below w.heap.size w w'∧w.heap.size≤s∧b≠s∧g6≠s∧g7≠s∧g9≠s∧g10≠s) ?_ ?_
 rotate_left
 ·intro hCont
  refine aeI (i:=0) (j:=4) (Ni:=some 13) (Nj:=some 11) #[true,true,true,false,false,false] #[false,true,true,false,true,false] rfl rfl rfl rfl (by kernel_rfl) (by decide) (by decide) (fun K hK=>?_) (fun K hK=>?_)
  ·skip
   have qK:=Rz (Wx)
   refine kP Try.func130 (by kernel_rfl) rfl #[] (by rfl) rfl rfl (by simp only [List.map_toArray,List.map_cons,List.map_nil]) ?_
   with_reducible refine (qK).mono ?_
   rintro e w0 ⟨rfl,hb⟩
   refine ⟨_,rfl,?_⟩
   clear qK
   replace mT:=ax mT hb
   replace m6:=ax m6 hb
   replace m7:=ax m7 hb
   replace m9:=ax m9 hb
   replace m10:=ax m10 hb
   replace mB:=ay mB hb
   clear hb
   refine hK.out _ _ ⟨((aa m9 0).trans rfl),((aa m9 1).trans rfl)⟩ (fun hHeld=>?_)
   clear hK K
   refine iP (a':=?_) ?_ ?_
   rotate_left
   ·show Act.put _ (some 13) _ = _
    simp only [Act.put,List.setIfInBounds_toArray,List.set_cons_zero,List.set_cons_succ,aZ,bf]
    rfl
   refine gB (i:=3) (N:=some 16) (v:=?_) (a':=?_) #[true,true,true,true,false,false] rfl rfl (by kernel_rfl) (fun _ _ _ h=>h) (Or.inl ⟨by rfl,?_⟩) hHeld ?_ ?_
   rotate_left
   ·rintro w' ⟨s0,s1⟩
    go_simp
    with_reducible rfl
   rotate_left
   ·simp only [Act.put,List.setIfInBounds_toArray,List.set_cons_zero,List.set_cons_succ,aZ,bf]
    rfl
   refine o7 (i:=4) (N:=some 11) #[true,true,true,true,true,false] rfl rfl (by kernel_rfl) (by decide) (fun K hK=>?_)
   have Dr:b≠w0.heap.size:=by have h_:=aU mT;omega
   have Dt:g6≠w0.heap.size:=by have h_:=aU m6;omega
   have Du:g7≠w0.heap.size:=by have h_:=aU m7;omega
   have Dv:g9≠w0.heap.size:=by have h_:=aU m9;omega
   have zI:g10≠w0.heap.size:=by have h_:=aU m10;omega
   have Y2:w.heap.size≤w0.heap.size:=by have h_:=mB.size;omega
   replace mT:=af mT (.cells #[.int .i64 0,.int .i64 0] 161)
   replace m6:=af m6 (.cells #[.int .i64 0,.int .i64 0] 161)
   replace m7:=af m7 (.cells #[.int .i64 0,.int .i64 0] 161)
   replace m9:=af m9 (.cells #[.int .i64 0,.int .i64 0] 161)
   replace m10:=af m10 (.cells #[.int .i64 0,.int .i64 0] 161)
   have m11:iT (w0.alloc (.cells #[.int .i64 0,.int .i64 0] 161)) (w0.heap.size) #[.int .i64 0,.int .i64 0] 161:=by have h_:=fK w0 (.cells #[.int .i64 0,.int .i64 0] 161);first|exact h_|(simp only [World.size_alloc] at h_;exact h_)
   replace mB:=au mB (.cells #[.int .i64 0,.int .i64 0] 161)
   refine Iw (w1:=?_) (v:=?_) (by rfl) rfl ?_ ?_
   rotate_left 2
   ·go_simp
    constructor
    ·rfl
    ·rfl
   refine hK.out _ _ ⟨((aa m9 0).trans rfl),((aa m9 1).trans rfl)⟩ (fun hHeld=>?_)
   clear hK K
   refine iP (a':=?_) ?_ ?_
   rotate_left
   ·show Act.put _ (some 11) _ = _
    simp only [Act.put,List.setIfInBounds_toArray,List.set_cons_zero,List.set_cons_succ,aZ,bf]
    rfl
   exact iP (by first|(simp only [qH,Act.put,List.setIfInBounds_toArray,List.set_cons_zero,List.set_cons_succ];done)|(simp only [qH,Act.put,List.setIfInBounds_toArray,List.set_cons_zero,List.set_cons_succ];rfl)) (hCont (w0.heap.size) _ ⟨mT,m6,m7,m9,m10,m11,mB,Y2,Dr,Dt,Du,Dv,zI⟩)
  ·skip
   have Dr:b≠Wx.heap.size:=by have h_:=aU mT;omega
   have Dt:g6≠Wx.heap.size:=by have h_:=aU m6;omega
   have Du:g7≠Wx.heap.size:=by have h_:=aU m7;omega
   have Dv:g9≠Wx.heap.size:=by have h_:=aU m9;omega
   have zI:g10≠Wx.heap.size:=by have h_:=aU m10;omega
   have Y2:w.heap.size≤Wx.heap.size:=by have h_:=mB.size;omega
   replace mT:=af mT (.cells #[.int .i64 0,.int .i64 0] 161)
   replace m6:=af m6 (.cells #[.int .i64 0,.int .i64 0] 161)
   replace m7:=af m7 (.cells #[.int .i64 0,.int .i64 0] 161)
   replace m9:=af m9 (.cells #[.int .i64 0,.int .i64 0] 161)
   replace m10:=af m10 (.cells #[.int .i64 0,.int .i64 0] 161)
   have m11:iT (Wx.alloc (.cells #[.int .i64 0,.int .i64 0] 161)) (Wx.heap.size) #[.int .i64 0,.int .i64 0] 161:=by have h_:=fK Wx (.cells #[.int .i64 0,.int .i64 0] 161);first|exact h_|(simp only [World.size_alloc] at h_;exact h_)
   replace mB:=au mB (.cells #[.int .i64 0,.int .i64 0] 161)
   refine Iw (w1:=?_) (v:=?_) (by rfl) rfl ?_ ?_
   rotate_left 2
   ·go_simp
    constructor
    ·rfl
    ·rfl
   refine hK.out _ _ ⟨((aa m9 0).trans rfl),((aa m9 1).trans rfl)⟩ (fun hHeld=>?_)
   clear hK K
   refine iP (a':=?_) ?_ ?_
   rotate_left
   ·show Act.put _ (some 11) _ = _
    simp only [Act.put,List.setIfInBounds_toArray,List.set_cons_zero,List.set_cons_succ,aZ,bf]
    rfl
   refine o7 (i:=0) (N:=some 13) #[true,true,true,false,true,false] rfl rfl (by kernel_rfl) (by decide) (fun K hK=>?_)
   have qK:=Rz ((Wx.alloc (.cells #[.int .i64 0,.int .i64 0] 161)))
   refine kP Try.func130 (by kernel_rfl) rfl #[] (by rfl) rfl rfl (by simp only [List.map_toArray,List.map_cons,List.map_nil]) ?_
   with_reducible refine (qK).mono ?_
   rintro e w0 ⟨rfl,hb⟩
   refine ⟨_,rfl,?_⟩
   clear qK
   replace mT:=ax mT hb
   replace m6:=ax m6 hb
   replace m7:=ax m7 hb
   replace m9:=ax m9 hb
   replace m10:=ax m10 hb
   replace m11:=ax m11 hb
   replace mB:=ay mB hb
   clear hb
   refine hK.out _ _ ⟨((aa m9 0).trans rfl),((aa m9 1).trans rfl)⟩ (fun hHeld=>?_)
   clear hK K
   refine iP (a':=?_) ?_ ?_
   rotate_left
   ·show Act.put _ (some 13) _ = _
    simp only [Act.put,List.setIfInBounds_toArray,List.set_cons_zero,List.set_cons_succ,aZ,bf]
    rfl
   refine gB (i:=3) (N:=some 16) (v:=?_) (a':=?_) #[true,true,true,true,true,false] rfl rfl (by kernel_rfl) (fun _ _ _ h=>h) (Or.inl ⟨by rfl,?_⟩) hHeld ?_ ?_
   rotate_left
   ·rintro w' ⟨s0,s1⟩
    go_simp
    with_reducible rfl
   rotate_left
   ·simp only [Act.put,List.setIfInBounds_toArray,List.set_cons_zero,List.set_cons_succ,aZ,bf]
    rfl
   exact iP (by first|(simp only [qH,Act.put,List.setIfInBounds_toArray,List.set_cons_zero,List.set_cons_succ];done)|(simp only [qH,Act.put,List.setIfInBounds_toArray,List.set_cons_zero,List.set_cons_succ];rfl)) (hCont (Wx.heap.size) _ ⟨mT,m6,m7,m9,m10,m11,mB,Y2,Dr,Dt,Du,Dv,zI⟩)
 rintro g11 Wg ⟨mT,m6,m7,m9,m10,m11,mB,Y2,Dr,Dt,Du,Dv,zI⟩
 have hHeld:(Wg.cell? ⟨g9,0,none⟩ = some (.int .i64 hd)∧Wg.cell? ⟨g9,1,none⟩ = some (.int .i64 layer)):=⟨((aa m9 0).trans rfl),((aa m9 1).trans rfl)⟩
 refine iP (a':=?_) ?_ ?_
 rotate_left
 ·simp only [qH,Act.put,List.setIfInBounds_toArray,List.set_cons_zero,List.set_cons_succ]
  rfl
 refine M5 (i:=5) (N:=none) #[true,true,true,true,true,true] rfl rfl (by kernel_rfl) (by decide) (fun K hK=>?_)
 have TL:=ae m11 0
 have TN:=(aa m11 0).trans rfl
 have TM:=ae m11 1
 have TP:=(aa m11 1).trans rfl
 refine Ld (w1:=?_) (by rfl) rfl ?_ ?_
 rotate_left
 ·go_simp
  rfl
 clear TL TN TM TP
 replace mT:iT (Wg.setCell ⟨g11,0,none⟩ (.int .i64 d0)) b #[.int .i64 se.nx,.int .i64 se.ny,.int .i64 se.cell,.int .i64 se.slot,.int .i64 se.slots,.int .i64 se.layers,.int .i64 se.most,.slice A7 se.shores.length c7,.slice A8 se.currents.length c8,.int .i64 v.speed,.int .i64 v.dive,.int .i64 v.use.f0,.int .i64 v.use.f1,.int .i64 v.drift.f0,.int .i64 v.drift.f1,.int .i64 v.reserve] 110:=az (p:=⟨g11,0,none⟩) mT Dr _
 replace m6:iT (Wg.setCell ⟨g11,0,none⟩ (.int .i64 d0)) g6 #[.int .i64 x.f0.f0,.int .i64 x.f0.f1,.int .i64 x.f1.f0,.int .i64 x.f1.f1] 31:=az (p:=⟨g11,0,none⟩) m6 Dt _
 replace m7:iT (Wg.setCell ⟨g11,0,none⟩ (.int .i64 d0)) g7 #[.int .i64 rb.f0.f0,.int .i64 rb.f0.f1,.int .i64 rb.f1.f0,.int .i64 rb.f1.f1] 31:=az (p:=⟨g11,0,none⟩) m7 Du _
 replace m9:iT (Wg.setCell ⟨g11,0,none⟩ (.int .i64 d0)) g9 #[.int .i64 hd,.int .i64 layer] 33:=az (p:=⟨g11,0,none⟩) m9 Dv _
 replace m10:iT (Wg.setCell ⟨g11,0,none⟩ (.int .i64 d0)) g10 #[.int .i64 0,.int .i64 0,.int .i64 0,.int .i64 0] 31:=az (p:=⟨g11,0,none⟩) m10 zI _
 replace m11:iT (Wg.setCell ⟨g11,0,none⟩ (.int .i64 d0)) g11 #[.int .i64 d0,.int .i64 0] 161:=aW m11 0 _ rfl
 replace mB:Below w.heap.size w (Wg.setCell ⟨g11,0,none⟩ (.int .i64 d0)):=mB.setCell (p:=⟨g11,0,none⟩) Y2 _
 replace mT:iT ((Wg.setCell ⟨g11,0,none⟩ (.int .i64 d0)).setCell ⟨g11,1,none⟩ (.int .i64 d1)) b #[.int .i64 se.nx,.int .i64 se.ny,.int .i64 se.cell,.int .i64 se.slot,.int .i64 se.slots,.int .i64 se.layers,.int .i64 se.most,.slice A7 se.shores.length c7,.slice A8 se.currents.length c8,.int .i64 v.speed,.int .i64 v.dive,.int .i64 v.use.f0,.int .i64 v.use.f1,.int .i64 v.drift.f0,.int .i64 v.drift.f1,.int .i64 v.reserve] 110:=az (p:=⟨g11,1,none⟩) mT Dr _
 replace m6:iT ((Wg.setCell ⟨g11,0,none⟩ (.int .i64 d0)).setCell ⟨g11,1,none⟩ (.int .i64 d1)) g6 #[.int .i64 x.f0.f0,.int .i64 x.f0.f1,.int .i64 x.f1.f0,.int .i64 x.f1.f1] 31:=az (p:=⟨g11,1,none⟩) m6 Dt _
 replace m7:iT ((Wg.setCell ⟨g11,0,none⟩ (.int .i64 d0)).setCell ⟨g11,1,none⟩ (.int .i64 d1)) g7 #[.int .i64 rb.f0.f0,.int .i64 rb.f0.f1,.int .i64 rb.f1.f0,.int .i64 rb.f1.f1] 31:=az (p:=⟨g11,1,none⟩) m7 Du _
 replace m9:iT ((Wg.setCell ⟨g11,0,none⟩ (.int .i64 d0)).setCell ⟨g11,1,none⟩ (.int .i64 d1)) g9 #[.int .i64 hd,.int .i64 layer] 33:=az (p:=⟨g11,1,none⟩) m9 Dv _
 replace m10:iT ((Wg.setCell ⟨g11,0,none⟩ (.int .i64 d0)).setCell ⟨g11,1,none⟩ (.int .i64 d1)) g10 #[.int .i64 0,.int .i64 0,.int .i64 0,.int .i64 0] 31:=az (p:=⟨g11,1,none⟩) m10 zI _
 replace m11:iT ((Wg.setCell ⟨g11,0,none⟩ (.int .i64 d0)).setCell ⟨g11,1,none⟩ (.int .i64 d1)) g11 #[.int .i64 d0,.int .i64 d1] 161:=aW m11 1 _ rfl
 replace mB:Below w.heap.size w ((Wg.setCell ⟨g11,0,none⟩ (.int .i64 d0)).setCell ⟨g11,1,none⟩ (.int .i64 d1)):=mB.setCell (p:=⟨g11,1,none⟩) Y2 _
 refine hK.out _ _ ?_
 clear hK K
 refine tT (by kernel_rfl) ?_
 try clear hHeld
 generalize zx:((Wg.setCell ⟨g11,0,none⟩ (.int .i64 d0)).setCell ⟨g11,1,none⟩ (.int .i64 d1)) = W2 at mT m6 m7 m9 m10 m11 mB ⊢
 clear zx
 have zy:w.heap.size≤W2.heap.size:=mB.size
 go_wp2_with fail
 replace mT:=ai mT
 replace m6:=ai m6
 replace m7:=ai m7
 replace m9:=ai m9
 replace m10:=ai m10
 replace m11:=ai m11
 replace mB:=av mB
 refine qg (n:=15) (S:=fun w'=>w'.cell? ⟨g7,0,none⟩ = some (.int .i64 rb.f0.f0)∧w'.cell? ⟨g7,1,none⟩ = some (.int .i64 rb.f0.f1)∧w'.cell? ⟨g7,2,none⟩ = some (.int .i64 rb.f1.f0)∧w'.cell? ⟨g7,3,none⟩ = some (.int .i64 rb.f1.f1)∧w'.cell? ⟨g9,0,none⟩ = some (.int .i64 hd)∧w'.cell? ⟨g9,1,none⟩ = some (.int .i64 layer)∧w'.cell? ⟨b,10,none⟩ = some (.int .i64 v.dive)) (ds:=[14]) #[false,false,false,false,false,false,false,false,false,false,false,false,false,false,false] (by kernel_rfl) rfl rfl ⟨((aa m7 0).trans rfl),((aa m7 1).trans rfl),((aa m7 2).trans rfl),((aa m7 3).trans rfl),((aa m9 0).trans rfl),((aa m9 1).trans rfl),((aa mT 10).trans rfl)⟩ (fun hHeld=>?_)
 generalize hWd:World.drew _ = Wx at mT m6 m7 m9 m10 m11 mB hHeld ⊢
 clear hWd
 refine bU (i:=0) (N:=some 17) (v:=?_) (a':=?_) #[true,false,false,false,false,false,false,false,false,false,false,false,false,false,false] rfl rfl (by kernel_rfl) (fun _ _ _ h=>h) (Or.inl ⟨by rfl,?_⟩) ?_ ?_
 rotate_left
 ·intro w'
  go_simp
  with_reducible rfl
 rotate_left
 ·simp only [Act.put,List.setIfInBounds_toArray,List.set_cons_zero,List.set_cons_succ,aZ,bf]
  rfl
 refine bU (i:=2) (N:=some 19) (v:=?_) (a':=?_) #[true,false,true,false,false,false,false,false,false,false,false,false,false,false,false] rfl rfl (by kernel_rfl) (fun _ _ _ h=>h) (Or.inl ⟨by rfl,?_⟩) ?_ ?_
 rotate_left
 ·intro w'
  go_simp
  with_reducible rfl
 rotate_left
 ·simp only [Act.put,List.setIfInBounds_toArray,List.set_cons_zero,List.set_cons_succ,aZ,bf]
  rfl
 refine bU (i:=4) (N:=some 21) (v:=?_) (a':=?_) #[true,false,true,false,true,false,false,false,false,false,false,false,false,false,false] rfl rfl (by kernel_rfl) (fun _ _ _ h=>h) (Or.inl ⟨by rfl,?_⟩) ?_ ?_
 rotate_left
 ·intro w'
  go_simp
  with_reducible rfl
 rotate_left
 ·simp only [Act.put,List.setIfInBounds_toArray,List.set_cons_zero,List.set_cons_succ,aZ,bf]
  rfl
 refine bU (i:=5) (N:=some 22) (v:=?_) (a':=?_) #[true,false,true,false,true,true,false,false,false,false,false,false,false,false,false] rfl rfl (by kernel_rfl) (fun _ _ _ h=>h) (Or.inl ⟨by rfl,?_⟩) ?_ ?_
 rotate_left
 ·intro w'
  go_simp
  with_reducible rfl
 rotate_left
 ·simp only [Act.put,List.setIfInBounds_toArray,List.set_cons_zero,List.set_cons_succ,aZ,bf]
  rfl
 refine bU (i:=6) (N:=some 23) (v:=?_) (a':=?_) #[true,false,true,false,true,true,true,false,false,false,false,false,false,false,false] rfl rfl (by kernel_rfl) (fun _ _ _ h=>h) (Or.inl ⟨by rfl,?_⟩) ?_ ?_
 rotate_left
 ·intro w'
  go_simp
  with_reducible rfl
 rotate_left
 ·simp only [Act.put,List.setIfInBounds_toArray,List.set_cons_zero,List.set_cons_succ,aZ,bf]
  rfl
 refine bU (i:=7) (N:=some 24) (v:=?_) (a':=?_) #[true,false,true,false,true,true,true,true,false,false,false,false,false,false,false] rfl rfl (by kernel_rfl) (fun _ _ _ h=>h) (Or.inl ⟨by rfl,?_⟩) ?_ ?_
 rotate_left
 ·intro w'
  go_simp
  with_reducible rfl
 rotate_left
 ·simp only [Act.put,List.setIfInBounds_toArray,List.set_cons_zero,List.set_cons_succ,aZ,bf]
  rfl
 refine bU (i:=8) (N:=some 25) (v:=?_) (a':=?_) #[true,false,true,false,true,true,true,true,true,false,false,false,false,false,false] rfl rfl (by kernel_rfl) (fun _ _ _ h=>h) (Or.inl ⟨by rfl,?_⟩) ?_ ?_
 rotate_left
 ·intro w'
  go_simp
  with_reducible rfl
 rotate_left
 ·simp only [Act.put,List.setIfInBounds_toArray,List.set_cons_zero,List.set_cons_succ,aZ,bf]
  rfl
 refine bU (i:=9) (N:=some 26) (v:=?_) (a':=?_) #[true,false,true,false,true,true,true,true,true,true,false,false,false,false,false] rfl rfl (by kernel_rfl) (fun _ _ _ h=>h) (Or.inl ⟨by rfl,?_⟩) ?_ ?_
 rotate_left
 ·intro w'
  go_simp
  with_reducible rfl
 rotate_left
 ·simp only [Act.put,List.setIfInBounds_toArray,List.set_cons_zero,List.set_cons_succ,aZ,bf]
  rfl
 refine gB (i:=1) (N:=some 18) (v:=?_) (a':=?_) #[true,true,true,false,true,true,true,true,true,true,false,false,false,false,false] rfl rfl (by kernel_rfl) (fun _ _ _ h=>h) (Or.inl ⟨by rfl,?_⟩) hHeld ?_ ?_
 rotate_left
 ·rintro w' ⟨s0,s1,s2,s3,s4,s5,s6⟩
  go_simp
  with_reducible rfl
 rotate_left
 ·simp only [Act.put,List.setIfInBounds_toArray,List.set_cons_zero,List.set_cons_succ,aZ,bf]
  rfl
 refine gB (i:=3) (N:=some 20) (v:=?_) (a':=?_) #[true,true,true,true,true,true,true,true,true,true,false,false,false,false,false] rfl rfl (by kernel_rfl) (fun _ _ _ h=>h) (Or.inl ⟨by rfl,?_⟩) hHeld ?_ ?_
 rotate_left
 ·rintro w' ⟨s0,s1,s2,s3,s4,s5,s6⟩
  go_simp
  with_reducible rfl
 rotate_left
 ·simp only [Act.put,List.setIfInBounds_toArray,List.set_cons_zero,List.set_cons_succ,aZ,bf]
  rfl
 refine gB (i:=10) (N:=some 27) (v:=?_) (a':=?_) #[true,true,true,true,true,true,true,true,true,true,true,false,false,false,false] rfl rfl (by kernel_rfl) (fun _ _ _ h=>h) (Or.inl ⟨by rfl,?_⟩) hHeld ?_ ?_
 rotate_left
 ·rintro w' ⟨s0,s1,s2,s3,s4,s5,s6⟩
  go_simp
  with_reducible rfl
 rotate_left
 ·simp only [Act.put,List.setIfInBounds_toArray,List.set_cons_zero,List.set_cons_succ,aZ,bf]
  rfl
 refine bU (i:=11) (N:=some 28) (v:=?_) (a':=?_) #[true,true,true,true,true,true,true,true,true,true,true,true,false,false,false] rfl rfl (by kernel_rfl) (fun _ _ _ h=>h) (Or.inl ⟨by rfl,?_⟩) ?_ ?_
 rotate_left
 ·intro w'
  go_simp
  with_reducible rfl
 rotate_left
 ·simp only [Act.put,List.setIfInBounds_toArray,List.set_cons_zero,List.set_cons_succ,aZ,bf]
  rfl
 refine ZY (σ:=Nat) 1 #[true,true,true,true,true,true,true,true,true,true,true,true,true,true,false] (fun s=>[(29,.agg #[.int .i64 y.f0.f0,.int .i64 y.f0.f1,.int .i64 y.f1.f0,.int .i64 y.f1.f1]),(12,.pointer (some ⟨s,0,none⟩))]) (fun s w'=>iT w' b #[.int .i64 se.nx,.int .i64 se.ny,.int .i64 se.cell,.int .i64 se.slot,.int .i64 se.slots,.int .i64 se.layers,.int .i64 se.most,.slice A7 se.shores.length c7,.slice A8 se.currents.length c8,.int .i64 v.speed,.int .i64 v.dive,.int .i64 v.use.f0,.int .i64 v.use.f1,.int .i64 v.drift.f0,.int .i64 v.drift.f1,.int .i64 v.reserve] 110∧iT w' g6 #[.int .i64 x.f0.f0,.int .i64 x.f0.f1,.int .i64 x.f1.f0,.int .i64 x.f1.f1] 31∧iT w' g7 #[.int .i64 rb.f0.f0,.int .i64 rb.f0.f1,.int .i64 rb.f1.f0,.int .i64 rb.f1.f1] 31∧iT w' g9 #[.int .i64 hd,.int .i64 layer] 33∧iT w' g10 #[.int .i64 0,.int .i64 0,.int .i64 0,.int .i64 0] 31∧iT w' g11 #[.int .i64 d0,.int .i64 d1] 161∧iT w' (s) #[.int .i64 0,.int .i64 0,.int .i64 0,.int .i64 0] 31∧Below w.heap.size w w'∧w.heap.size≤s∧b≠s∧g6≠s∧g7≠s∧g9≠s∧g10≠s∧g11≠s) ?_ ?_
 rotate_left
 ·intro hCont
  refine aeI (i:=12) (j:=13) (Ni:=some 29) (Nj:=some 12) #[true,true,true,true,true,true,true,true,true,true,true,true,true,false,false] #[true,true,true,true,true,true,true,true,true,true,true,true,false,true,false] rfl rfl rfl rfl (by kernel_rfl) (by decide) (by decide) (fun K hK=>?_) (fun K hK=>?_)
  ·skip
   have qK:=kA _ w1 (Wx) (hT.below mB)
   refine kP Try.func70 (by kernel_rfl) rfl #[.pointer (some ⟨b,0,none⟩),.agg #[.int .i64 rb.f0.f0,.int .i64 rb.f0.f1,.int .i64 rb.f1.f0,.int .i64 rb.f1.f1],.int .i64 layer,.int .i64 t,.int .i64 (wrap64 (t+v.dive))] (by rfl) rfl rfl (by simp only [List.map_toArray,List.map_cons,List.map_nil];rfl) ?_
   with_reducible refine (qK).mono ?_
   rintro e qB ⟨rfl,hb⟩
   refine ⟨_,rfl,?_⟩
   clear qK
   replace mT:=ax mT hb
   replace m6:=ax m6 hb
   replace m7:=ax m7 hb
   replace m9:=ax m9 hb
   replace m10:=ax m10 hb
   replace m11:=ax m11 hb
   replace mB:=ay mB hb
   clear hb
   refine hK.out _ _ ⟨((aa m7 0).trans rfl),((aa m7 1).trans rfl),((aa m7 2).trans rfl),((aa m7 3).trans rfl),((aa m9 0).trans rfl),((aa m9 1).trans rfl),((aa mT 10).trans rfl)⟩ (fun hHeld=>?_)
   clear hK K
   refine iP (a':=?_) ?_ ?_
   rotate_left
   ·show Act.put _ (some 29) _ = _
    simp only [Act.put,List.setIfInBounds_toArray,List.set_cons_zero,List.set_cons_succ,aZ,bf]
    rfl
   refine o7 (i:=13) (N:=some 12) #[true,true,true,true,true,true,true,true,true,true,true,true,true,true,false] rfl rfl (by kernel_rfl) (by decide) (fun K hK=>?_)
   have uh:b≠qB.heap.size:=by have h_:=aU mT;omega
   have nM:g6≠qB.heap.size:=by have h_:=aU m6;omega
   have yz:g7≠qB.heap.size:=by have h_:=aU m7;omega
   have yA:g9≠qB.heap.size:=by have h_:=aU m9;omega
   have j5:g10≠qB.heap.size:=by have h_:=aU m10;omega
   have vJ:g11≠qB.heap.size:=by have h_:=aU m11;omega
   have GH:w.heap.size≤qB.heap.size:=by have h_:=mB.size;omega
   replace mT:=af mT (.cells #[.int .i64 0,.int .i64 0,.int .i64 0,.int .i64 0] 31)
   replace m6:=af m6 (.cells #[.int .i64 0,.int .i64 0,.int .i64 0,.int .i64 0] 31)
   replace m7:=af m7 (.cells #[.int .i64 0,.int .i64 0,.int .i64 0,.int .i64 0] 31)
   replace m9:=af m9 (.cells #[.int .i64 0,.int .i64 0,.int .i64 0,.int .i64 0] 31)
   replace m10:=af m10 (.cells #[.int .i64 0,.int .i64 0,.int .i64 0,.int .i64 0] 31)
   replace m11:=af m11 (.cells #[.int .i64 0,.int .i64 0,.int .i64 0,.int .i64 0] 31)
   have m12:iT (qB.alloc (.cells #[.int .i64 0,.int .i64 0,.int .i64 0,.int .i64 0] 31)) (qB.heap.size) #[.int .i64 0,.int .i64 0,.int .i64 0,.int .i64 0] 31:=by have h_:=fK qB (.cells #[.int .i64 0,.int .i64 0,.int .i64 0,.int .i64 0] 31);first|exact h_|(simp only [World.size_alloc] at h_;exact h_)
   replace mB:=au mB (.cells #[.int .i64 0,.int .i64 0,.int .i64 0,.int .i64 0] 31)
   refine Iw (w1:=?_) (v:=?_) (by rfl) rfl ?_ ?_
   rotate_left 2
   ·go_simp
    constructor
    ·rfl
    ·rfl
   refine hK.out _ _ ⟨((aa m7 0).trans rfl),((aa m7 1).trans rfl),((aa m7 2).trans rfl),((aa m7 3).trans rfl),((aa m9 0).trans rfl),((aa m9 1).trans rfl),((aa mT 10).trans rfl)⟩ (fun hHeld=>?_)
   clear hK K
   refine iP (a':=?_) ?_ ?_
   rotate_left
   ·show Act.put _ (some 12) _ = _
    simp only [Act.put,List.setIfInBounds_toArray,List.set_cons_zero,List.set_cons_succ,aZ,bf]
    rfl
   exact iP (by first|(simp only [qH,Act.put,List.setIfInBounds_toArray,List.set_cons_zero,List.set_cons_succ];done)|(simp only [qH,Act.put,List.setIfInBounds_toArray,List.set_cons_zero,List.set_cons_succ];rfl)) (hCont (qB.heap.size) _ ⟨mT,m6,m7,m9,m10,m11,m12,mB,GH,uh,nM,yz,yA,j5,vJ⟩)
  ·skip
   have uh:b≠Wx.heap.size:=by have h_:=aU mT;omega
   have nM:g6≠Wx.heap.size:=by have h_:=aU m6;omega
   have yz:g7≠Wx.heap.size:=by have h_:=aU m7;omega
   have yA:g9≠Wx.heap.size:=by have h_:=aU m9;omega
   have j5:g10≠Wx.heap.size:=by have h_:=aU m10;omega
   have vJ:g11≠Wx.heap.size:=by have h_:=aU m11;omega
   have GH:w.heap.size≤Wx.heap.size:=by have h_:=mB.size;omega
   replace mT:=af mT (.cells #[.int .i64 0,.int .i64 0,.int .i64 0,.int .i64 0] 31)
   replace m6:=af m6 (.cells #[.int .i64 0,.int .i64 0,.int .i64 0,.int .i64 0] 31)
   replace m7:=af m7 (.cells #[.int .i64 0,.int .i64 0,.int .i64 0,.int .i64 0] 31)
   replace m9:=af m9 (.cells #[.int .i64 0,.int .i64 0,.int .i64 0,.int .i64 0] 31)
   replace m10:=af m10 (.cells #[.int .i64 0,.int .i64 0,.int .i64 0,.int .i64 0] 31)
   replace m11:=af m11 (.cells #[.int .i64 0,.int .i64 0,.int .i64 0,.int .i64 0] 31)
   have m12:iT (Wx.alloc (.cells #[.int .i64 0,.int .i64 0,.int .i64 0,.int .i64 0] 31)) (Wx.heap.size) #[.int .i64 0,.int .i64 0,.int .i64 0,.int .i64 0] 31:=by have h_:=fK Wx (.cells #[.int .i64 0,.int .i64 0,.int .i64 0,.int .i64 0] 31);first|exact h_|(simp only [World.size_alloc] at h_;exact h_)
   replace mB:=au mB (.cells #[.int .i64 0,.int .i64 0,.int .i64 0,.int .i64 0] 31)
   refine Iw (w1:=?_) (v:=?_) (by rfl) rfl ?_ ?_
   rotate_left 2
   ·go_simp
    constructor
    ·rfl
    ·rfl
   refine hK.out _ _ ⟨((aa m7 0).trans rfl),((aa m7 1).trans rfl),((aa m7 2).trans rfl),((aa m7 3).trans rfl),((aa m9 0).trans rfl),((aa m9 1).trans rfl),((aa mT 10).trans rfl)⟩ (fun hHeld=>?_)
   clear hK K
   refine iP (a':=?_) ?_ ?_
   rotate_left
   ·show Act.put _ (some 12) _ = _
    simp only [Act.put,List.setIfInBounds_toArray,List.set_cons_zero,List.set_cons_succ,aZ,bf]
    rfl
   refine o7 (i:=12) (N:=some 29) #[true,true,true,true,true,true,true,true,true,true,true,true,true,true,false] rfl rfl (by kernel_rfl) (by decide) (fun K hK=>?_)
   have qK:=kA _ w1 ((Wx.alloc (.cells #[.int .i64 0,.int .i64 0,.int .i64 0,.int .i64 0] 31))) (hT.below mB)
   refine kP Try.func70 (by kernel_rfl) rfl #[.pointer (some ⟨b,0,none⟩),.agg #[.int .i64 rb.f0.f0,.int .i64 rb.f0.f1,.int .i64 rb.f1.f0,.int .i64 rb.f1.f1],.int .i64 layer,.int .i64 t,.int .i64 (wrap64 (t+v.dive))] (by rfl) rfl rfl (by simp only [List.map_toArray,List.map_cons,List.map_nil];rfl) ?_
   with_reducible refine (qK).mono ?_
   rintro e qB ⟨rfl,hb⟩
   refine ⟨_,rfl,?_⟩
   clear qK
   replace mT:=ax mT hb
   replace m6:=ax m6 hb
   replace m7:=ax m7 hb
   replace m9:=ax m9 hb
   replace m10:=ax m10 hb
   replace m11:=ax m11 hb
   replace m12:=ax m12 hb
   replace mB:=ay mB hb
   clear hb
   refine hK.out _ _ ⟨((aa m7 0).trans rfl),((aa m7 1).trans rfl),((aa m7 2).trans rfl),((aa m7 3).trans rfl),((aa m9 0).trans rfl),((aa m9 1).trans rfl),((aa mT 10).trans rfl)⟩ (fun hHeld=>?_)
   clear hK K
   refine iP (a':=?_) ?_ ?_
   rotate_left
   ·show Act.put _ (some 29) _ = _
    simp only [Act.put,List.setIfInBounds_toArray,List.set_cons_zero,List.set_cons_succ,aZ,bf]
    rfl
   exact iP (by first|(simp only [qH,Act.put,List.setIfInBounds_toArray,List.set_cons_zero,List.set_cons_succ];done)|(simp only [qH,Act.put,List.setIfInBounds_toArray,List.set_cons_zero,List.set_cons_succ];rfl)) (hCont (Wx.heap.size) _ ⟨mT,m6,m7,m9,m10,m11,m12,mB,GH,uh,nM,yz,yA,j5,vJ⟩)
 rintro g12 Wg ⟨mT,m6,m7,m9,m10,m11,m12,mB,GH,uh,nM,yz,yA,j5,vJ⟩
 have hHeld:(Wg.cell? ⟨g7,0,none⟩ = some (.int .i64 rb.f0.f0)∧Wg.cell? ⟨g7,1,none⟩ = some (.int .i64 rb.f0.f1)∧Wg.cell? ⟨g7,2,none⟩ = some (.int .i64 rb.f1.f0)∧Wg.cell? ⟨g7,3,none⟩ = some (.int .i64 rb.f1.f1)∧Wg.cell? ⟨g9,0,none⟩ = some (.int .i64 hd)∧Wg.cell? ⟨g9,1,none⟩ = some (.int .i64 layer)∧Wg.cell? ⟨b,10,none⟩ = some (.int .i64 v.dive)):=⟨((aa m7 0).trans rfl),((aa m7 1).trans rfl),((aa m7 2).trans rfl),((aa m7 3).trans rfl),((aa m9 0).trans rfl),((aa m9 1).trans rfl),((aa mT 10).trans rfl)⟩
 refine iP (a':=?_) ?_ ?_
 rotate_left
 ·simp only [qH,Act.put,List.setIfInBounds_toArray,List.set_cons_zero,List.set_cons_succ]
  rfl
 refine M5 (i:=14) (N:=none) #[true,true,true,true,true,true,true,true,true,true,true,true,true,true,true] rfl rfl (by kernel_rfl) (by decide) (fun K hK=>?_)
 have TL:=ae m12 0
 have TN:=(aa m12 0).trans rfl
 have TM:=ae m12 1
 have TP:=(aa m12 1).trans rfl
 have ail:=ae m12 2
 have ain:=(aa m12 2).trans rfl
 have aim:=ae m12 3
 have aio:=(aa m12 3).trans rfl
 refine Ld (w1:=?_) (by rfl) rfl ?_ ?_
 rotate_left
 ·go_simp
  rfl
 clear TL TN TM TP ail ain aim aio
 replace mT:iT (Wg.setCell ⟨g12,0,none⟩ (.int .i64 y.f0.f0)) b #[.int .i64 se.nx,.int .i64 se.ny,.int .i64 se.cell,.int .i64 se.slot,.int .i64 se.slots,.int .i64 se.layers,.int .i64 se.most,.slice A7 se.shores.length c7,.slice A8 se.currents.length c8,.int .i64 v.speed,.int .i64 v.dive,.int .i64 v.use.f0,.int .i64 v.use.f1,.int .i64 v.drift.f0,.int .i64 v.drift.f1,.int .i64 v.reserve] 110:=az (p:=⟨g12,0,none⟩) mT uh _
 replace m6:iT (Wg.setCell ⟨g12,0,none⟩ (.int .i64 y.f0.f0)) g6 #[.int .i64 x.f0.f0,.int .i64 x.f0.f1,.int .i64 x.f1.f0,.int .i64 x.f1.f1] 31:=az (p:=⟨g12,0,none⟩) m6 nM _
 replace m7:iT (Wg.setCell ⟨g12,0,none⟩ (.int .i64 y.f0.f0)) g7 #[.int .i64 rb.f0.f0,.int .i64 rb.f0.f1,.int .i64 rb.f1.f0,.int .i64 rb.f1.f1] 31:=az (p:=⟨g12,0,none⟩) m7 yz _
 replace m9:iT (Wg.setCell ⟨g12,0,none⟩ (.int .i64 y.f0.f0)) g9 #[.int .i64 hd,.int .i64 layer] 33:=az (p:=⟨g12,0,none⟩) m9 yA _
 replace m10:iT (Wg.setCell ⟨g12,0,none⟩ (.int .i64 y.f0.f0)) g10 #[.int .i64 0,.int .i64 0,.int .i64 0,.int .i64 0] 31:=az (p:=⟨g12,0,none⟩) m10 j5 _
 replace m11:iT (Wg.setCell ⟨g12,0,none⟩ (.int .i64 y.f0.f0)) g11 #[.int .i64 d0,.int .i64 d1] 161:=az (p:=⟨g12,0,none⟩) m11 vJ _
 replace m12:iT (Wg.setCell ⟨g12,0,none⟩ (.int .i64 y.f0.f0)) g12 #[.int .i64 y.f0.f0,.int .i64 0,.int .i64 0,.int .i64 0] 31:=aW m12 0 _ rfl
 replace mB:Below w.heap.size w (Wg.setCell ⟨g12,0,none⟩ (.int .i64 y.f0.f0)):=mB.setCell (p:=⟨g12,0,none⟩) GH _
 replace mT:iT ((Wg.setCell ⟨g12,0,none⟩ (.int .i64 y.f0.f0)).setCell ⟨g12,1,none⟩ (.int .i64 y.f0.f1)) b #[.int .i64 se.nx,.int .i64 se.ny,.int .i64 se.cell,.int .i64 se.slot,.int .i64 se.slots,.int .i64 se.layers,.int .i64 se.most,.slice A7 se.shores.length c7,.slice A8 se.currents.length c8,.int .i64 v.speed,.int .i64 v.dive,.int .i64 v.use.f0,.int .i64 v.use.f1,.int .i64 v.drift.f0,.int .i64 v.drift.f1,.int .i64 v.reserve] 110:=az (p:=⟨g12,1,none⟩) mT uh _
 replace m6:iT ((Wg.setCell ⟨g12,0,none⟩ (.int .i64 y.f0.f0)).setCell ⟨g12,1,none⟩ (.int .i64 y.f0.f1)) g6 #[.int .i64 x.f0.f0,.int .i64 x.f0.f1,.int .i64 x.f1.f0,.int .i64 x.f1.f1] 31:=az (p:=⟨g12,1,none⟩) m6 nM _
 replace m7:iT ((Wg.setCell ⟨g12,0,none⟩ (.int .i64 y.f0.f0)).setCell ⟨g12,1,none⟩ (.int .i64 y.f0.f1)) g7 #[.int .i64 rb.f0.f0,.int .i64 rb.f0.f1,.int .i64 rb.f1.f0,.int .i64 rb.f1.f1] 31:=az (p:=⟨g12,1,none⟩) m7 yz _
 replace m9:iT ((Wg.setCell ⟨g12,0,none⟩ (.int .i64 y.f0.f0)).setCell ⟨g12,1,none⟩ (.int .i64 y.f0.f1)) g9 #[.int .i64 hd,.int .i64 layer] 33:=az (p:=⟨g12,1,none⟩) m9 yA _
 replace m10:iT ((Wg.setCell ⟨g12,0,none⟩ (.int .i64 y.f0.f0)).setCell ⟨g12,1,none⟩ (.int .i64 y.f0.f1)) g10 #[.int .i64 0,.int .i64 0,.int .i64 0,.int .i64 0] 31:=az (p:=⟨g12,1,none⟩) m10 j5 _
 replace m11:iT ((Wg.setCell ⟨g12,0,none⟩ (.int .i64 y.f0.f0)).setCell ⟨g12,1,none⟩ (.int .i64 y.f0.f1)) g11 #[.int .i64 d0,.int .i64 d1] 161:=az (p:=⟨g12,1,none⟩) m11 vJ _
 replace m12:iT ((Wg.setCell ⟨g12,0,none⟩ (.int .i64 y.f0.f0)).setCell ⟨g12,1,none⟩ (.int .i64 y.f0.f1)) g12 #[.int .i64 y.f0.f0,.int .i64 y.f0.f1,.int .i64 0,.int .i64 0] 31:=aW m12 1 _ rfl
 replace mB:Below w.heap.size w ((Wg.setCell ⟨g12,0,none⟩ (.int .i64 y.f0.f0)).setCell ⟨g12,1,none⟩ (.int .i64 y.f0.f1)):=mB.setCell (p:=⟨g12,1,none⟩) GH _
 replace mT:iT (((Wg.setCell ⟨g12,0,none⟩ (.int .i64 y.f0.f0)).setCell ⟨g12,1,none⟩ (.int .i64 y.f0.f1)).setCell ⟨g12,2,none⟩ (.int .i64 y.f1.f0)) b #[.int .i64 se.nx,.int .i64 se.ny,.int .i64 se.cell,.int .i64 se.slot,.int .i64 se.slots,.int .i64 se.layers,.int .i64 se.most,.slice A7 se.shores.length c7,.slice A8 se.currents.length c8,.int .i64 v.speed,.int .i64 v.dive,.int .i64 v.use.f0,.int .i64 v.use.f1,.int .i64 v.drift.f0,.int .i64 v.drift.f1,.int .i64 v.reserve] 110:=az (p:=⟨g12,2,none⟩) mT uh _
 replace m6:iT (((Wg.setCell ⟨g12,0,none⟩ (.int .i64 y.f0.f0)).setCell ⟨g12,1,none⟩ (.int .i64 y.f0.f1)).setCell ⟨g12,2,none⟩ (.int .i64 y.f1.f0)) g6 #[.int .i64 x.f0.f0,.int .i64 x.f0.f1,.int .i64 x.f1.f0,.int .i64 x.f1.f1] 31:=az (p:=⟨g12,2,none⟩) m6 nM _
 replace m7:iT (((Wg.setCell ⟨g12,0,none⟩ (.int .i64 y.f0.f0)).setCell ⟨g12,1,none⟩ (.int .i64 y.f0.f1)).setCell ⟨g12,2,none⟩ (.int .i64 y.f1.f0)) g7 #[.int .i64 rb.f0.f0,.int .i64 rb.f0.f1,.int .i64 rb.f1.f0,.int .i64 rb.f1.f1] 31:=az (p:=⟨g12,2,none⟩) m7 yz _
 replace m9:iT (((Wg.setCell ⟨g12,0,none⟩ (.int .i64 y.f0.f0)).setCell ⟨g12,1,none⟩ (.int .i64 y.f0.f1)).setCell ⟨g12,2,none⟩ (.int .i64 y.f1.f0)) g9 #[.int .i64 hd,.int .i64 layer] 33:=az (p:=⟨g12,2,none⟩) m9 yA _
 replace m10:iT (((Wg.setCell ⟨g12,0,none⟩ (.int .i64 y.f0.f0)).setCell ⟨g12,1,none⟩ (.int .i64 y.f0.f1)).setCell ⟨g12,2,none⟩ (.int .i64 y.f1.f0)) g10 #[.int .i64 0,.int .i64 0,.int .i64 0,.int .i64 0] 31:=az (p:=⟨g12,2,none⟩) m10 j5 _
 replace m11:iT (((Wg.setCell ⟨g12,0,none⟩ (.int .i64 y.f0.f0)).setCell ⟨g12,1,none⟩ (.int .i64 y.f0.f1)).setCell ⟨g12,2,none⟩ (.int .i64 y.f1.f0)) g11 #[.int .i64 d0,.int .i64 d1] 161:=az (p:=⟨g12,2,none⟩) m11 vJ _
 replace m12:iT (((Wg.setCell ⟨g12,0,none⟩ (.int .i64 y.f0.f0)).setCell ⟨g12,1,none⟩ (.int .i64 y.f0.f1)).setCell ⟨g12,2,none⟩ (.int .i64 y.f1.f0)) g12 #[.int .i64 y.f0.f0,.int .i64 y.f0.f1,.int .i64 y.f1.f0,.int .i64 0] 31:=aW m12 2 _ rfl
 replace mB:Below w.heap.size w (((Wg.setCell ⟨g12,0,none⟩ (.int .i64 y.f0.f0)).setCell ⟨g12,1,none⟩ (.int .i64 y.f0.f1)).setCell ⟨g12,2,none⟩ (.int .i64 y.f1.f0)):=mB.setCell (p:=⟨g12,2,none⟩) GH _
 replace mT:iT ((((Wg.setCell ⟨g12,0,none⟩ (.int .i64 y.f0.f0)).setCell ⟨g12,1,none⟩ (.int .i64 y.f0.f1)).setCell ⟨g12,2,none⟩ (.int .i64 y.f1.f0)).setCell ⟨g12,3,none⟩ (.int .i64 y.f1.f1)) b #[.int .i64 se.nx,.int .i64 se.ny,.int .i64 se.cell,.int .i64 se.slot,.int .i64 se.slots,.int .i64 se.layers,.int .i64 se.most,.slice A7 se.shores.length c7,.slice A8 se.currents.length c8,.int .i64 v.speed,.int .i64 v.dive,.int .i64 v.use.f0,.int .i64 v.use.f1,.int .i64 v.drift.f0,.int .i64 v.drift.f1,.int .i64 v.reserve] 110:=az (p:=⟨g12,3,none⟩) mT uh _
 replace m6:iT ((((Wg.setCell ⟨g12,0,none⟩ (.int .i64 y.f0.f0)).setCell ⟨g12,1,none⟩ (.int .i64 y.f0.f1)).setCell ⟨g12,2,none⟩ (.int .i64 y.f1.f0)).setCell ⟨g12,3,none⟩ (.int .i64 y.f1.f1)) g6 #[.int .i64 x.f0.f0,.int .i64 x.f0.f1,.int .i64 x.f1.f0,.int .i64 x.f1.f1] 31:=az (p:=⟨g12,3,none⟩) m6 nM _
 replace m7:iT ((((Wg.setCell ⟨g12,0,none⟩ (.int .i64 y.f0.f0)).setCell ⟨g12,1,none⟩ (.int .i64 y.f0.f1)).setCell ⟨g12,2,none⟩ (.int .i64 y.f1.f0)).setCell ⟨g12,3,none⟩ (.int .i64 y.f1.f1)) g7 #[.int .i64 rb.f0.f0,.int .i64 rb.f0.f1,.int .i64 rb.f1.f0,.int .i64 rb.f1.f1] 31:=az (p:=⟨g12,3,none⟩) m7 yz _
 replace m9:iT ((((Wg.setCell ⟨g12,0,none⟩ (.int .i64 y.f0.f0)).setCell ⟨g12,1,none⟩ (.int .i64 y.f0.f1)).setCell ⟨g12,2,none⟩ (.int .i64 y.f1.f0)).setCell ⟨g12,3,none⟩ (.int .i64 y.f1.f1)) g9 #[.int .i64 hd,.int .i64 layer] 33:=az (p:=⟨g12,3,none⟩) m9 yA _
 replace m10:iT ((((Wg.setCell ⟨g12,0,none⟩ (.int .i64 y.f0.f0)).setCell ⟨g12,1,none⟩ (.int .i64 y.f0.f1)).setCell ⟨g12,2,none⟩ (.int .i64 y.f1.f0)).setCell ⟨g12,3,none⟩ (.int .i64 y.f1.f1)) g10 #[.int .i64 0,.int .i64 0,.int .i64 0,.int .i64 0] 31:=az (p:=⟨g12,3,none⟩) m10 j5 _
 replace m11:iT ((((Wg.setCell ⟨g12,0,none⟩ (.int .i64 y.f0.f0)).setCell ⟨g12,1,none⟩ (.int .i64 y.f0.f1)).setCell ⟨g12,2,none⟩ (.int .i64 y.f1.f0)).setCell ⟨g12,3,none⟩ (.int .i64 y.f1.f1)) g11 #[.int .i64 d0,.int .i64 d1] 161:=az (p:=⟨g12,3,none⟩) m11 vJ _
 replace m12:iT ((((Wg.setCell ⟨g12,0,none⟩ (.int .i64 y.f0.f0)).setCell ⟨g12,1,none⟩ (.int .i64 y.f0.f1)).setCell ⟨g12,2,none⟩ (.int .i64 y.f1.f0)).setCell ⟨g12,3,none⟩ (.int .i64 y.f1.f1)) g12 #[.int .i64 y.f0.f0,.int .i64 y.f0.f1,.int .i64 y.f1.f0,.int .i64 y.f1.f1] 31:=aW m12 3 _ rfl
 replace mB:Below w.heap.size w ((((Wg.setCell ⟨g12,0,none⟩ (.int .i64 y.f0.f0)).setCell ⟨g12,1,none⟩ (.int .i64 y.f0.f1)).setCell ⟨g12,2,none⟩ (.int .i64 y.f1.f0)).setCell ⟨g12,3,none⟩ (.int .i64 y.f1.f1)):=mB.setCell (p:=⟨g12,3,none⟩) GH _
 refine hK.out _ _ ?_
 clear hK K
 refine tT (by kernel_rfl) ?_
 try clear hHeld
 generalize zx:((((Wg.setCell ⟨g12,0,none⟩ (.int .i64 y.f0.f0)).setCell ⟨g12,1,none⟩ (.int .i64 y.f0.f1)).setCell ⟨g12,2,none⟩ (.int .i64 y.f1.f0)).setCell ⟨g12,3,none⟩ (.int .i64 y.f1.f1)) = W3 at mT m6 m7 m9 m10 m11 m12 mB ⊢
 clear zx
 have Jc:w.heap.size≤W3.heap.size:=mB.size
 go_wp2_with fail
 replace mT:=ai mT
 replace m6:=ai m6
 replace m7:=ai m7
 replace m9:=ai m9
 replace m10:=ai m10
 replace m11:=ai m11
 replace m12:=ai m12
 replace mB:=av mB
 refine qg (n:=30) (S:=fun w'=>w'.cell? ⟨g6,0,none⟩ = some (.int .i64 x.f0.f0)∧w'.cell? ⟨g6,1,none⟩ = some (.int .i64 x.f0.f1)∧w'.cell? ⟨g6,2,none⟩ = some (.int .i64 x.f1.f0)∧w'.cell? ⟨g6,3,none⟩ = some (.int .i64 x.f1.f1)∧w'.cell? ⟨g11,0,none⟩ = some (.int .i64 d0)∧w'.cell? ⟨g11,1,none⟩ = some (.int .i64 d1)∧w'.cell? ⟨g12,0,none⟩ = some (.int .i64 y.f0.f0)∧w'.cell? ⟨g12,1,none⟩ = some (.int .i64 y.f0.f1)∧w'.cell? ⟨g12,2,none⟩ = some (.int .i64 y.f1.f0)∧w'.cell? ⟨g12,3,none⟩ = some (.int .i64 y.f1.f1)∧w'.cell? ⟨b,9,none⟩ = some (.int .i64 v.speed)) (ds:=[29]) #[false,false,false,false,false,false,false,false,false,false,false,false,false,false,false,false,false,false,false,false,false,false,false,false,false,false,false,false,false,false] (by kernel_rfl) rfl rfl ⟨((aa m6 0).trans rfl),((aa m6 1).trans rfl),((aa m6 2).trans rfl),((aa m6 3).trans rfl),((aa m11 0).trans rfl),((aa m11 1).trans rfl),((aa m12 0).trans rfl),((aa m12 1).trans rfl),((aa m12 2).trans rfl),((aa m12 3).trans rfl),((aa mT 9).trans rfl)⟩ (fun hHeld=>?_)
 generalize hWd:World.drew _ = Wx at mT m6 m7 m9 m10 m11 m12 mB hHeld ⊢
 clear hWd
 refine bU (i:=0) (N:=some 30) (v:=?_) (a':=?_) #[true,false,false,false,false,false,false,false,false,false,false,false,false,false,false,false,false,false,false,false,false,false,false,false,false,false,false,false,false,false] rfl rfl (by kernel_rfl) (fun _ _ _ h=>h) (Or.inl ⟨by rfl,?_⟩) ?_ ?_
 rotate_left
 ·intro w'
  go_simp
  with_reducible rfl
 rotate_left
 ·simp only [Act.put,List.setIfInBounds_toArray,List.set_cons_zero,List.set_cons_succ,aZ,bf]
  rfl
 refine bU (i:=1) (N:=some 31) (v:=?_) (a':=?_) #[true,true,false,false,false,false,false,false,false,false,false,false,false,false,false,false,false,false,false,false,false,false,false,false,false,false,false,false,false,false] rfl rfl (by kernel_rfl) (fun _ _ _ h=>h) (Or.inl ⟨by rfl,?_⟩) ?_ ?_
 rotate_left
 ·intro w'
  go_simp
  with_reducible rfl
 rotate_left
 ·simp only [Act.put,List.setIfInBounds_toArray,List.set_cons_zero,List.set_cons_succ,aZ,bf]
  rfl
 refine bU (i:=3) (N:=some 33) (v:=?_) (a':=?_) #[true,true,false,true,false,false,false,false,false,false,false,false,false,false,false,false,false,false,false,false,false,false,false,false,false,false,false,false,false,false] rfl rfl (by kernel_rfl) (fun _ _ _ h=>h) (Or.inl ⟨by rfl,?_⟩) ?_ ?_
 rotate_left
 ·intro w'
  go_simp
  with_reducible rfl
 rotate_left
 ·simp only [Act.put,List.setIfInBounds_toArray,List.set_cons_zero,List.set_cons_succ,aZ,bf]
  rfl
 refine bU (i:=5) (N:=some 35) (v:=?_) (a':=?_) #[true,true,false,true,false,true,false,false,false,false,false,false,false,false,false,false,false,false,false,false,false,false,false,false,false,false,false,false,false,false] rfl rfl (by kernel_rfl) (fun _ _ _ h=>h) (Or.inl ⟨by rfl,?_⟩) ?_ ?_
 rotate_left
 ·intro w'
  go_simp
  with_reducible rfl
 rotate_left
 ·simp only [Act.put,List.setIfInBounds_toArray,List.set_cons_zero,List.set_cons_succ,aZ,bf]
  rfl
 refine bU (i:=6) (N:=some 36) (v:=?_) (a':=?_) #[true,true,false,true,false,true,true,false,false,false,false,false,false,false,false,false,false,false,false,false,false,false,false,false,false,false,false,false,false,false] rfl rfl (by kernel_rfl) (fun _ _ _ h=>h) (Or.inl ⟨by rfl,?_⟩) ?_ ?_
 rotate_left
 ·intro w'
  go_simp
  with_reducible rfl
 rotate_left
 ·simp only [Act.put,List.setIfInBounds_toArray,List.set_cons_zero,List.set_cons_succ,aZ,bf]
  rfl
 refine bU (i:=7) (N:=some 37) (v:=?_) (a':=?_) #[true,true,false,true,false,true,true,true,false,false,false,false,false,false,false,false,false,false,false,false,false,false,false,false,false,false,false,false,false,false] rfl rfl (by kernel_rfl) (fun _ _ _ h=>h) (Or.inl ⟨by rfl,?_⟩) ?_ ?_
 rotate_left
 ·intro w'
  go_simp
  with_reducible rfl
 rotate_left
 ·simp only [Act.put,List.setIfInBounds_toArray,List.set_cons_zero,List.set_cons_succ,aZ,bf]
  rfl
 refine bU (i:=8) (N:=some 38) (v:=?_) (a':=?_) #[true,true,false,true,false,true,true,true,true,false,false,false,false,false,false,false,false,false,false,false,false,false,false,false,false,false,false,false,false,false] rfl rfl (by kernel_rfl) (fun _ _ _ h=>h) (Or.inl ⟨by rfl,?_⟩) ?_ ?_
 rotate_left
 ·intro w'
  go_simp
  with_reducible rfl
 rotate_left
 ·simp only [Act.put,List.setIfInBounds_toArray,List.set_cons_zero,List.set_cons_succ,aZ,bf]
  rfl
 refine bU (i:=11) (N:=some 41) (v:=?_) (a':=?_) #[true,true,false,true,false,true,true,true,true,false,false,true,false,false,false,false,false,false,false,false,false,false,false,false,false,false,false,false,false,false] rfl rfl (by kernel_rfl) (fun _ _ _ h=>h) (Or.inl ⟨by rfl,?_⟩) ?_ ?_
 rotate_left
 ·intro w'
  go_simp
  with_reducible rfl
 rotate_left
 ·simp only [Act.put,List.setIfInBounds_toArray,List.set_cons_zero,List.set_cons_succ,aZ,bf]
  rfl
 refine bU (i:=14) (N:=some 44) (v:=?_) (a':=?_) #[true,true,false,true,false,true,true,true,true,false,false,true,false,false,true,false,false,false,false,false,false,false,false,false,false,false,false,false,false,false] rfl rfl (by kernel_rfl) (fun _ _ _ h=>h) (Or.inl ⟨by rfl,?_⟩) ?_ ?_
 rotate_left
 ·intro w'
  go_simp
  with_reducible rfl
 rotate_left
 ·simp only [Act.put,List.setIfInBounds_toArray,List.set_cons_zero,List.set_cons_succ,aZ,bf]
  rfl
 refine bU (i:=15) (N:=some 45) (v:=?_) (a':=?_) #[true,true,false,true,false,true,true,true,true,false,false,true,false,false,true,true,false,false,false,false,false,false,false,false,false,false,false,false,false,false] rfl rfl (by kernel_rfl) (fun _ _ _ h=>h) (Or.inl ⟨by rfl,?_⟩) ?_ ?_
 rotate_left
 ·intro w'
  go_simp
  with_reducible rfl
 rotate_left
 ·simp only [Act.put,List.setIfInBounds_toArray,List.set_cons_zero,List.set_cons_succ,aZ,bf]
  rfl
 refine bU (i:=17) (N:=some 47) (v:=?_) (a':=?_) #[true,true,false,true,false,true,true,true,true,false,false,true,false,false,true,true,false,true,false,false,false,false,false,false,false,false,false,false,false,false] rfl rfl (by kernel_rfl) (fun _ _ _ h=>h) (Or.inl ⟨by rfl,?_⟩) ?_ ?_
 rotate_left
 ·intro w'
  go_simp
  with_reducible rfl
 rotate_left
 ·simp only [Act.put,List.setIfInBounds_toArray,List.set_cons_zero,List.set_cons_succ,aZ,bf]
  rfl
 refine bU (i:=19) (N:=some 49) (v:=?_) (a':=?_) #[true,true,false,true,false,true,true,true,true,false,false,true,false,false,true,true,false,true,false,true,false,false,false,false,false,false,false,false,false,false] rfl rfl (by kernel_rfl) (fun _ _ _ h=>h) (Or.inl ⟨by rfl,?_⟩) ?_ ?_
 rotate_left
 ·intro w'
  go_simp
  with_reducible rfl
 rotate_left
 ·simp only [Act.put,List.setIfInBounds_toArray,List.set_cons_zero,List.set_cons_succ,aZ,bf]
  rfl
 refine bU (i:=20) (N:=some 50) (v:=?_) (a':=?_) #[true,true,false,true,false,true,true,true,true,false,false,true,false,false,true,true,false,true,false,true,true,false,false,false,false,false,false,false,false,false] rfl rfl (by kernel_rfl) (fun _ _ _ h=>h) (Or.inl ⟨by rfl,?_⟩) ?_ ?_
 rotate_left
 ·intro w'
  go_simp
  with_reducible rfl
 rotate_left
 ·simp only [Act.put,List.setIfInBounds_toArray,List.set_cons_zero,List.set_cons_succ,aZ,bf]
  rfl
 refine bU (i:=21) (N:=some 51) (v:=?_) (a':=?_) #[true,true,false,true,false,true,true,true,true,false,false,true,false,false,true,true,false,true,false,true,true,true,false,false,false,false,false,false,false,false] rfl rfl (by kernel_rfl) (fun _ _ _ h=>h) (Or.inl ⟨by rfl,?_⟩) ?_ ?_
 rotate_left
 ·intro w'
  go_simp
  with_reducible rfl
 rotate_left
 ·simp only [Act.put,List.setIfInBounds_toArray,List.set_cons_zero,List.set_cons_succ,aZ,bf]
  rfl
 refine bU (i:=22) (N:=some 52) (v:=?_) (a':=?_) #[true,true,false,true,false,true,true,true,true,false,false,true,false,false,true,true,false,true,false,true,true,true,true,false,false,false,false,false,false,false] rfl rfl (by kernel_rfl) (fun _ _ _ h=>h) (Or.inl ⟨by rfl,?_⟩) ?_ ?_
 rotate_left
 ·intro w'
  go_simp
  with_reducible rfl
 rotate_left
 ·simp only [Act.put,List.setIfInBounds_toArray,List.set_cons_zero,List.set_cons_succ,aZ,bf]
  rfl
 refine bU (i:=25) (N:=some 55) (v:=?_) (a':=?_) #[true,true,false,true,false,true,true,true,true,false,false,true,false,false,true,true,false,true,false,true,true,true,true,false,false,true,false,false,false,false] rfl rfl (by kernel_rfl) (fun _ _ _ h=>h) (Or.inl ⟨by rfl,?_⟩) ?_ ?_
 rotate_left
 ·intro w'
  go_simp
  with_reducible rfl
 rotate_left
 ·simp only [Act.put,List.setIfInBounds_toArray,List.set_cons_zero,List.set_cons_succ,aZ,bf]
  rfl
 refine gB (i:=2) (N:=some 32) (v:=?_) (a':=?_) #[true,true,true,true,false,true,true,true,true,false,false,true,false,false,true,true,false,true,false,true,true,true,true,false,false,true,false,false,false,false] rfl rfl (by kernel_rfl) (fun _ _ _ h=>h) (Or.inl ⟨by rfl,?_⟩) hHeld ?_ ?_
 rotate_left
 ·rintro w' ⟨s0,s1,s2,s3,s4,s5,s6,s7,s8,s9,s10⟩
  go_simp
  with_reducible rfl
 rotate_left
 ·simp only [Act.put,List.setIfInBounds_toArray,List.set_cons_zero,List.set_cons_succ,aZ,bf]
  rfl
 refine gB (i:=4) (N:=some 34) (v:=?_) (a':=?_) #[true,true,true,true,true,true,true,true,true,false,false,true,false,false,true,true,false,true,false,true,true,true,true,false,false,true,false,false,false,false] rfl rfl (by kernel_rfl) (fun _ _ _ h=>h) (Or.inl ⟨by rfl,?_⟩) hHeld ?_ ?_
 rotate_left
 ·rintro w' ⟨s0,s1,s2,s3,s4,s5,s6,s7,s8,s9,s10⟩
  go_simp
  with_reducible rfl
 rotate_left
 ·simp only [Act.put,List.setIfInBounds_toArray,List.set_cons_zero,List.set_cons_succ,aZ,bf]
  rfl
 refine gB (i:=9) (N:=some 39) (v:=?_) (a':=?_) #[true,true,true,true,true,true,true,true,true,true,false,true,false,false,true,true,false,true,false,true,true,true,true,false,false,true,false,false,false,false] rfl rfl (by kernel_rfl) (fun _ _ _ h=>h) (Or.inl ⟨by rfl,?_⟩) hHeld ?_ ?_
 rotate_left
 ·rintro w' ⟨s0,s1,s2,s3,s4,s5,s6,s7,s8,s9,s10⟩
  go_simp
  with_reducible rfl
 rotate_left
 ·simp only [Act.put,List.setIfInBounds_toArray,List.set_cons_zero,List.set_cons_succ,aZ,bf]
  rfl
 refine bU (i:=10) (N:=some 40) (v:=?_) (a':=?_) #[true,true,true,true,true,true,true,true,true,true,true,true,false,false,true,true,false,true,false,true,true,true,true,false,false,true,false,false,false,false] rfl rfl (by kernel_rfl) (fun _ _ _ h=>h) (Or.inl ⟨by rfl,?_⟩) ?_ ?_
 rotate_left
 ·intro w'
  go_simp
  with_reducible rfl
 rotate_left
 ·simp only [Act.put,List.setIfInBounds_toArray,List.set_cons_zero,List.set_cons_succ,aZ,bf]
  rfl
 refine gB (i:=12) (N:=some 42) (v:=?_) (a':=?_) #[true,true,true,true,true,true,true,true,true,true,true,true,true,false,true,true,false,true,false,true,true,true,true,false,false,true,false,false,false,false] rfl rfl (by kernel_rfl) (fun _ _ _ h=>h) (Or.inl ⟨by rfl,?_⟩) hHeld ?_ ?_
 rotate_left
 ·rintro w' ⟨s0,s1,s2,s3,s4,s5,s6,s7,s8,s9,s10⟩
  go_simp
  with_reducible rfl
 rotate_left
 ·simp only [Act.put,List.setIfInBounds_toArray,List.set_cons_zero,List.set_cons_succ,aZ,bf]
  rfl
 refine gB (i:=16) (N:=some 46) (v:=?_) (a':=?_) #[true,true,true,true,true,true,true,true,true,true,true,true,true,false,true,true,true,true,false,true,true,true,true,false,false,true,false,false,false,false] rfl rfl (by kernel_rfl) (fun _ _ _ h=>h) (Or.inl ⟨by rfl,?_⟩) hHeld ?_ ?_
 rotate_left
 ·rintro w' ⟨s0,s1,s2,s3,s4,s5,s6,s7,s8,s9,s10⟩
  go_simp
  with_reducible rfl
 rotate_left
 ·simp only [Act.put,List.setIfInBounds_toArray,List.set_cons_zero,List.set_cons_succ,aZ,bf]
  rfl
 refine gB (i:=18) (N:=some 48) (v:=?_) (a':=?_) #[true,true,true,true,true,true,true,true,true,true,true,true,true,false,true,true,true,true,true,true,true,true,true,false,false,true,false,false,false,false] rfl rfl (by kernel_rfl) (fun _ _ _ h=>h) (Or.inl ⟨by rfl,?_⟩) hHeld ?_ ?_
 rotate_left
 ·rintro w' ⟨s0,s1,s2,s3,s4,s5,s6,s7,s8,s9,s10⟩
  go_simp
  with_reducible rfl
 rotate_left
 ·simp only [Act.put,List.setIfInBounds_toArray,List.set_cons_zero,List.set_cons_succ,aZ,bf]
  rfl
 refine gB (i:=23) (N:=some 53) (v:=?_) (a':=?_) #[true,true,true,true,true,true,true,true,true,true,true,true,true,false,true,true,true,true,true,true,true,true,true,true,false,true,false,false,false,false] rfl rfl (by kernel_rfl) (fun _ _ _ h=>h) (Or.inl ⟨by rfl,?_⟩) hHeld ?_ ?_
 rotate_left
 ·rintro w' ⟨s0,s1,s2,s3,s4,s5,s6,s7,s8,s9,s10⟩
  go_simp
  with_reducible rfl
 rotate_left
 ·simp only [Act.put,List.setIfInBounds_toArray,List.set_cons_zero,List.set_cons_succ,aZ,bf]
  rfl
 refine bU (i:=24) (N:=some 54) (v:=?_) (a':=?_) #[true,true,true,true,true,true,true,true,true,true,true,true,true,false,true,true,true,true,true,true,true,true,true,true,true,true,false,false,false,false] rfl rfl (by kernel_rfl) (fun _ _ _ h=>h) (Or.inl ⟨by rfl,?_⟩) ?_ ?_
 rotate_left
 ·intro w'
  go_simp
  with_reducible rfl
 rotate_left
 ·simp only [Act.put,List.setIfInBounds_toArray,List.set_cons_zero,List.set_cons_succ,aZ,bf]
  rfl
 refine gB (i:=26) (N:=some 56) (v:=?_) (a':=?_) #[true,true,true,true,true,true,true,true,true,true,true,true,true,false,true,true,true,true,true,true,true,true,true,true,true,true,true,false,false,false] rfl rfl (by kernel_rfl) (fun _ _ _ h=>h) (Or.inl ⟨by rfl,?_⟩) hHeld ?_ ?_
 rotate_left
 ·rintro w' ⟨s0,s1,s2,s3,s4,s5,s6,s7,s8,s9,s10⟩
  go_simp
  with_reducible rfl
 rotate_left
 ·simp only [Act.put,List.setIfInBounds_toArray,List.set_cons_zero,List.set_cons_succ,aZ,bf]
  rfl
 refine o7 (i:=13) (N:=some 43) #[true,true,true,true,true,true,true,true,true,true,true,true,true,true,true,true,true,true,true,true,true,true,true,true,true,true,true,false,false,false] rfl rfl (by kernel_rfl) (by decide) (fun K hK=>?_)
 have qK:=kS0 _ w2 Wx (hT.below mB)
 refine kP Try.func131 (by kernel_rfl) rfl #[.pointer (some ⟨b,0,none⟩),.agg #[.int .i64 x.f0.f0,.int .i64 x.f0.f1],.int .i64 (wrap64 (d0*v.speed)),.agg #[.int .i64 y.f0.f0,.int .i64 y.f0.f1]] (by rfl) rfl rfl (by simp only [List.map_toArray,List.map_cons,List.map_nil];rfl) ?_
 with_reducible refine (qK).mono ?_
 rintro e D9 ⟨rfl,hb⟩
 refine ⟨_,rfl,?_⟩
 clear qK
 replace mT:=ax mT hb
 replace m6:=ax m6 hb
 replace m7:=ax m7 hb
 replace m9:=ax m9 hb
 replace m10:=ax m10 hb
 replace m11:=ax m11 hb
 replace m12:=ax m12 hb
 replace mB:=ay mB hb
 clear hb
 refine hK.out _ _ ⟨((aa m6 0).trans rfl),((aa m6 1).trans rfl),((aa m6 2).trans rfl),((aa m6 3).trans rfl),((aa m11 0).trans rfl),((aa m11 1).trans rfl),((aa m12 0).trans rfl),((aa m12 1).trans rfl),((aa m12 2).trans rfl),((aa m12 3).trans rfl),((aa mT 9).trans rfl)⟩ (fun hHeld=>?_)
 clear hK K
 refine iP (a':=?_) ?_ ?_
 rotate_left
 ·show Act.put _ (some 43) _ = _
  simp only [Act.put,List.setIfInBounds_toArray,List.set_cons_zero,List.set_cons_succ,aZ,bf]
  rfl
 refine o7 (i:=27) (N:=some 57) #[true,true,true,true,true,true,true,true,true,true,true,true,true,true,true,true,true,true,true,true,true,true,true,true,true,true,true,true,false,false] rfl rfl (by kernel_rfl) (by decide) (fun K hK=>?_)
 have qK:=kS1 _ w3 D9 (hT.below mB)
 refine kP Try.func131 (by kernel_rfl) rfl #[.pointer (some ⟨b,0,none⟩),.agg #[.int .i64 x.f1.f0,.int .i64 x.f1.f1],.int .i64 (wrap64 (d1*v.speed)),.agg #[.int .i64 y.f1.f0,.int .i64 y.f1.f1]] (by rfl) rfl rfl (by simp only [List.map_toArray,List.map_cons,List.map_nil];rfl) ?_
 with_reducible refine (qK).mono ?_
 rintro e Np ⟨rfl,hb⟩
 refine ⟨_,rfl,?_⟩
 clear qK
 replace mT:=ax mT hb
 replace m6:=ax m6 hb
 replace m7:=ax m7 hb
 replace m9:=ax m9 hb
 replace m10:=ax m10 hb
 replace m11:=ax m11 hb
 replace m12:=ax m12 hb
 replace mB:=ay mB hb
 clear hb
 refine hK.out _ _ ⟨((aa m6 0).trans rfl),((aa m6 1).trans rfl),((aa m6 2).trans rfl),((aa m6 3).trans rfl),((aa m11 0).trans rfl),((aa m11 1).trans rfl),((aa m12 0).trans rfl),((aa m12 1).trans rfl),((aa m12 2).trans rfl),((aa m12 3).trans rfl),((aa mT 9).trans rfl)⟩ (fun hHeld=>?_)
 clear hK K
 refine iP (a':=?_) ?_ ?_
 rotate_left
 ·show Act.put _ (some 57) _ = _
  simp only [Act.put,List.setIfInBounds_toArray,List.set_cons_zero,List.set_cons_succ,aZ,bf]
  rfl
 refine bU (i:=28) (N:=some 58) (v:=?_) (a':=?_) #[true,true,true,true,true,true,true,true,true,true,true,true,true,true,true,true,true,true,true,true,true,true,true,true,true,true,true,true,true,false] rfl rfl (by kernel_rfl) (fun _ _ _ h=>h) (Or.inl ⟨by rfl,?_⟩) ?_ ?_
 rotate_left
 ·intro w'
  go_simp
  with_reducible rfl
 rotate_left
 ·simp only [Act.put,List.setIfInBounds_toArray,List.set_cons_zero,List.set_cons_succ,aZ,bf]
  rfl
 refine M5 (i:=29) (N:=none) #[true,true,true,true,true,true,true,true,true,true,true,true,true,true,true,true,true,true,true,true,true,true,true,true,true,true,true,true,true,true] rfl rfl (by kernel_rfl) (by decide) (fun K hK=>?_)
 have TL:=ae m10 0
 have TM:=ae m10 1
 have ail:=ae m10 2
 have aim:=ae m10 3
 have TN:=(aa m10 0).trans rfl
 have TP:=(aa m10 1).trans rfl
 have ain:=(aa m10 2).trans rfl
 have aio:=(aa m10 3).trans rfl
 refine Ld (w1:=?_) (by rfl) rfl ?_ ?_
 rotate_left
 ·go_simp
  rfl
 refine hK.out _ _ ?_
 clear hK K
 refine tT (by kernel_rfl) ?_
 go_wp2
 exact bodyPost_ret (results_cell_row rfl _ _ g10 31 #[.int .i64 (pG v.dive x.f0 (d0*v.speed) y.f0).f0,.int .i64 (pG v.dive x.f0 (d0*v.speed) y.f0).f1,.int .i64 (pG v.dive x.f1 (d1*v.speed) y.f1).f0,.int .i64 (pG v.dive x.f1 (d1*v.speed) y.f1).f1] (0,0) _ rfl (aW (aW (aW (aW m10 0 (.int .i64 (pG v.dive x.f0 (d0*v.speed) y.f0).f0) rfl) 1 (.int .i64 (pG v.dive x.f0 (d0*v.speed) y.f0).f1) rfl) 2 (.int .i64 (pG v.dive x.f1 (d1*v.speed) y.f1).f0) rfl) 3 (.int .i64 (pG v.dive x.f1 (d1*v.speed) y.f1).f1) rfl) Try.underlying31 rfl (by kernel_rfl)) rfl ⟨by rw [HR.out],(Below.setCell (p:=⟨g10,3,none⟩) (Below.setCell (p:=⟨g10,2,none⟩) (Below.setCell (p:=⟨g10,1,none⟩) (Below.setCell (p:=⟨g10,0,none⟩) mB jl _) jl _) jl _) jl _)⟩
end Go.Proofs.Ytmhaiihjfgfaoaa.Gl
end
section
namespace Go.Proofs.Ytmhaiihjfgfaoaa.Gl
open Go.RowKit Go.Shelf Go.Proofs.YtmhaiihjfgfaoaaW.PrintWords Go.Proofs.YtmhaiihjfgfaoaaW.PrintLast Go.Proofs.YtmhaiihjfgfaoaaW.PrintMore Go.Proofs.Ytmhaiihjfgfaoaa.Pr Go.Proofs.YtmhaiihjfgfaoaaW.Round
set_option linter.unusedVariables false
set_option linter.unusedSimpArgs false
attribute [local go_sem] fo fq gu gz fu
structure ZR (s:oH):Prop where
 n:Ar s
 sh:(s.shores.length:Int) = s.nx*s.ny
 cu:(s.currents.length:Int) = s.slots*s.layers*(s.nx*s.ny)
 cb:aip s
def GL (x:jI):Prop:=Qy x∧x.f0.f0≤x.f0.f1∧x.f1.f0≤x.f1.f1
theorem aaW {s:oH} {v:wW} {x:jI} {t:Int} (hS:Ar s) (hV:MG v) (hx:GL x) (h:qM s v x t = 0):Jd s (jV s v x)∧(0≤t∧t+v.dive≤s.slots*s.slot)∧(0≤x.f0.f0∧x.f0.f1≤1000000)∧(0≤x.f1.f0∧x.f1.f1≤1000000):=by
 have hm:=hS.most
 have hsp:=hV.speed
 have hdv:=hV.dive
 have p1:=iV (show 0≤v.speed+s.most by omega) (show v.speed+s.most≤10000 by omega) (show 0≤v.dive by omega) hdv.2
 have p2:=iV (show 0≤s.nx by have:=hS.nx;omega) hS.nx.2 (show 0≤s.cell by have:=hS.cell;omega) hS.cell.2
 have p3:=iV (show 0≤s.ny by have:=hS.ny;omega) hS.ny.2 (show 0≤s.cell by have:=hS.cell;omega) hS.cell.2
 obtain ⟨⟨x0,x1,x2,x3⟩,x4,x5⟩:=hx
 unfold qM at h
 have hc:ib s (jV s v x) = true∧nA s t (t+v.dive) = true:=by
  by_cases hb:(ib s (jV s v x) && nA s t (t+v.dive)) = true
  ·exact Bool.and_eq_true_iff.1 hb
  ·rw [if_neg hb] at h
   cases h
 obtain ⟨h1,h2⟩:=hc
 unfold ib jV at h1
 unfold nA at h2
 simp only [Bool.and_eq_true,decide_eq_true_eq] at h1 h2
 unfold Jd jV
 dsimp only
 omega
def DL (s:oH) (v:wW) (x:jI) (t:Int):Int:=if qM s v x t≠0 then qM s v x t else Bo s (jV s v x)
def zJ (s:oH) (v:wW) (x:jI) (t hd layer:Int):jI:=if DL s v x t = 0 then AQ s v x (jV s v x) t hd layer else z31
theorem aaX (s:oH) (x:jI):Bo s x = 0∨Bo s x = 21:=by
 unfold Bo
 split
 ·exact .inr rfl
 ·exact .inl rfl
set_option maxRecDepth 100000 in
set_option maxHeartbeats 8000000 in
theorem aaY (b:Nat) (s:oH) (v:wW) (x:jI) (t hd layer:Int) (w:World) (hT:ma w b s v) (hS:ZR s) (hV:MG v) (hx:GL x) (ht0:0≤t) (ht1:t≤1099511627776) (hh0:0≤hd) (hh1:hd≤8) (hl0:0≤layer) (hl1:layer < s.layers):
 Calls Try.prog 66 #[.pointer (some ⟨b,0,none⟩),.agg #[.int .i64 x.f0.f0,.int .i64 x.f0.f1,.int .i64 x.f1.f0,.int .i64 x.f1.f1],.int .i64 t,.agg #[.int .i64 hd,.int .i64 layer]] w (vP (.tuple #[.agg #[.int .i64 (zJ s v x t hd layer).f0.f0,.int .i64 (zJ s v x t hd layer).f0.f1,.int .i64 (zJ s v x t hd layer).f1.f0,.int .i64 (zJ s v x t hd layer).f1.f1],.int .i64 (DL s v x t)]) w):=by
 have vT:=Try.underlying31
 have sU:=Try.underlying27
 have Ze:=Try.underlying33
 have kR:=fun W (h:ma W b s v)=>Y1 b s v x t W h hS.n hV hx.1 ht0 ht1
 have hok:=aaW (t:=t) hS.n hV hx
 have HE:Hid (DL s v x t = if qM s v x t≠0 then qM s v x t else Bo s (jV s v x)):=Lib.hid rfl
 have HV:Hid (zJ s v x t hd layer = if DL s v x t = 0 then AQ s v x (jV s v x) t hd layer else z31):=Lib.hid rfl
 have HRV:Hid (AA s v x t = if qM s v x t = 0 then jV s v x else z31):=Lib.hid rfl
 go_enter Try.func66,Try.ntmps66
 go_wp2_with fail
 have m5:iT (((w.alloc (.cells #[.int .i64 x.f0.f0,.int .i64 x.f0.f1,.int .i64 x.f1.f0,.int .i64 x.f1.f1] 31)).alloc (.cells #[.int .i64 hd,.int .i64 layer] 33)).alloc (.cells #[.int .i64 0,.int .i64 0,.int .i64 0,.int .i64 0] 31)) (w.heap.size) #[.int .i64 x.f0.f0,.int .i64 x.f0.f1,.int .i64 x.f1.f0,.int .i64 x.f1.f1] 31:=(af (af (by have h_:=fK w (.cells #[.int .i64 x.f0.f0,.int .i64 x.f0.f1,.int .i64 x.f1.f0,.int .i64 x.f1.f1] 31);first|exact h_|(simp only [World.size_alloc] at h_;exact h_)) _) _)
 have m7:iT (((w.alloc (.cells #[.int .i64 x.f0.f0,.int .i64 x.f0.f1,.int .i64 x.f1.f0,.int .i64 x.f1.f1] 31)).alloc (.cells #[.int .i64 hd,.int .i64 layer] 33)).alloc (.cells #[.int .i64 0,.int .i64 0,.int .i64 0,.int .i64 0] 31)) (w.heap.size+1) #[.int .i64 hd,.int .i64 layer] 33:=(af (by have h_:=fK (w.alloc (.cells #[.int .i64 x.f0.f0,.int .i64 x.f0.f1,.int .i64 x.f1.f0,.int .i64 x.f1.f1] 31)) (.cells #[.int .i64 hd,.int .i64 layer] 33);first|exact h_|(simp only [World.size_alloc] at h_;exact h_)) _)
 have m8:iT (((w.alloc (.cells #[.int .i64 x.f0.f0,.int .i64 x.f0.f1,.int .i64 x.f1.f0,.int .i64 x.f1.f1] 31)).alloc (.cells #[.int .i64 hd,.int .i64 layer] 33)).alloc (.cells #[.int .i64 0,.int .i64 0,.int .i64 0,.int .i64 0] 31)) (w.heap.size+1+1) #[.int .i64 0,.int .i64 0,.int .i64 0,.int .i64 0] 31:=(by have h_:=fK ((w.alloc (.cells #[.int .i64 x.f0.f0,.int .i64 x.f0.f1,.int .i64 x.f1.f0,.int .i64 x.f1.f1] 31)).alloc (.cells #[.int .i64 hd,.int .i64 layer] 33)) (.cells #[.int .i64 0,.int .i64 0,.int .i64 0,.int .i64 0] 31);first|exact h_|(simp only [World.size_alloc] at h_;exact h_))
 have mB:Below w.heap.size w (((w.alloc (.cells #[.int .i64 x.f0.f0,.int .i64 x.f0.f1,.int .i64 x.f1.f0,.int .i64 x.f1.f1] 31)).alloc (.cells #[.int .i64 hd,.int .i64 layer] 33)).alloc (.cells #[.int .i64 0,.int .i64 0,.int .i64 0,.int .i64 0] 31)):=(au (au (au (Below.refl w.heap.size w) _) _) _)
 have qi:w.heap.size≤w.heap.size:=Nat.le_refl _
 generalize zx:(((w.alloc (.cells #[.int .i64 x.f0.f0,.int .i64 x.f0.f1,.int .i64 x.f1.f0,.int .i64 x.f1.f1] 31)).alloc (.cells #[.int .i64 hd,.int .i64 layer] 33)).alloc (.cells #[.int .i64 0,.int .i64 0,.int .i64 0,.int .i64 0] 31)) = W1 at m5 m7 m8 mB ⊢
 clear zx
 generalize hg5:w.heap.size = g5 at m5 m7 m8 ⊢
 have hG5:w.heap.size≤g5:=by omega
 generalize hg7:g5+1 = g7 at m7 m8 ⊢
 have LH:g5≠g7:=by omega
 have aau:g7≠g5:=LH.symm
 have hG7:w.heap.size≤g7:=by omega
 generalize hg8:g7+1 = g8 at m8 ⊢
 have TI:g5≠g8:=by omega
 have TJ:g7≠g8:=by omega
 have ahY:g8≠g5:=TI.symm
 have ahZ:g8≠g7:=TJ.symm
 have TK:w.heap.size≤g8:=by omega
 clear qi
 try clear hg8
 try clear hg7
 try clear hg5
 have DJ:w.heap.size≤W1.heap.size:=mB.size
 have hcon:=kR W1 (hT.below mB)
 (with_reducible refine hcon.mono ?_)
 clear hcon
 rintro e W2 ⟨rfl,hb⟩
 replace m5:=ax m5 hb
 replace m7:=ax m7 hb
 replace m8:=ax m8 hb
 replace mB:=ay mB hb
 clear hb
 have zy:w.heap.size≤W2.heap.size:=mB.size
 clear kR
 by_cases hr:qM s v x t = 0
 case neg =>
  have HZ:Hid (DL s v x t = qM s v x t):=Lib.hid (HE.out.trans (if_pos hr))
  try clear HE
  have Br:Hid (zJ s v x t hd layer = z31):=Lib.hid (HV.out.trans (if_neg (by rw [HZ.out];exact hr)))
  clear HV
  clear hok
  generalize qM s v x t = E at*
  generalize AA s v x t = V at*
  have hz:(E == 0) = false:=beq_eq_false_iff_ne.2 hr
  have hz2:(E != 0) = true:=by rw [bne,hz];rfl
  clear hr HRV
  have aFT:∀ o_,(W2.alloc o_).cell? ⟨g8,0,none⟩ = some (.int .i64 0):=fun o_=>(aa (af m8 o_) 0).trans rfl
  have aFU:∀ o_,(W2.alloc o_).frozen? ⟨g8,0,none⟩ = false:=fun o_=>ae (af m8 o_) 0
  have aFV:∀ o_,(W2.alloc o_).cell? ⟨g8,1,none⟩ = some (.int .i64 0):=fun o_=>(aa (af m8 o_) 1).trans rfl
  have aFW:∀ o_,(W2.alloc o_).frozen? ⟨g8,1,none⟩ = false:=fun o_=>ae (af m8 o_) 1
  have aFX:∀ o_,(W2.alloc o_).cell? ⟨g8,2,none⟩ = some (.int .i64 0):=fun o_=>(aa (af m8 o_) 2).trans rfl
  have aFY:∀ o_,(W2.alloc o_).frozen? ⟨g8,2,none⟩ = false:=fun o_=>ae (af m8 o_) 2
  have aFZ:∀ o_,(W2.alloc o_).cell? ⟨g8,3,none⟩ = some (.int .i64 0):=fun o_=>(aa (af m8 o_) 3).trans rfl
  have aF0:∀ o_,(W2.alloc o_).frozen? ⟨g8,3,none⟩ = false:=fun o_=>ae (af m8 o_) 3
  go_wp2
  exact bodyPost_ret (iw rfl _ _ g8 31 #[.int .i64 0,.int .i64 0,.int .i64 0,.int .i64 0] (0,0) _ rfl (aW (aW (aW (aW (af m8 _) 0 (.int .i64 0) rfl) 1 (.int .i64 0) rfl) 2 (.int .i64 0) rfl) 3 (.int .i64 0) rfl) Try.underlying31 rfl (by kernel_rfl)) rfl ⟨by rw [Br.out,HZ.out];rfl,(Below.setCell (p:=⟨g8,3,none⟩) (Below.setCell (p:=⟨g8,2,none⟩) (Below.setCell (p:=⟨g8,1,none⟩) (Below.setCell (p:=⟨g8,0,none⟩) (au mB _) TK _) TK _) TK _) TK _)⟩
 case pos =>
  obtain ⟨hG,⟨hk0,hk1⟩,_⟩:=hok hr
  clear hok
  have HE2:=Lib.hid (HE.out.trans (if_neg (fun h=>h hr)))
  clear HE
  have apx:=Lib.hid (HRV.out.trans (if_pos hr))
  clear HRV
  rw [hr,apx.out]
  clear hr apx
  have kS:=fun W (h:ma W b s v)=>aaC b s v (jV s v x) W h hS.n hG hS.sh
  have kD:=fun W (h:ma W b s v)=>aaV b s v x (jV s v x) t hd layer W h hS.n hV hS.cu hS.cb hx.1 hG hk0 hk1 hh0 hh1 hl0 hl1
  clear hS hV hx hG hk0 hk1 hh0 hh1 hl0 hl1
  have hsf:=aaX s (jV s v x)
  generalize AQ s v x (jV s v x) t hd layer = Y at*
  generalize jV s v x = G at*
  generalize Bo s G = F at*
  go_wp2_with fail
  have LJ:=aU m5
  have aav:=aU m7
  have ah0:=aU m8
  have m10:iT (W2.alloc (.cells #[.int .i64 G.f0.f0,.int .i64 G.f0.f1,.int .i64 G.f1.f0,.int .i64 G.f1.f1] 31)) (W2.heap.size) #[.int .i64 G.f0.f0,.int .i64 G.f0.f1,.int .i64 G.f1.f0,.int .i64 G.f1.f1] 31:=(by have h_:=fK W2 (.cells #[.int .i64 G.f0.f0,.int .i64 G.f0.f1,.int .i64 G.f1.f0,.int .i64 G.f1.f1] 31);first|exact h_|(simp only [World.size_alloc] at h_;exact h_))
  replace m5:iT (W2.alloc (.cells #[.int .i64 G.f0.f0,.int .i64 G.f0.f1,.int .i64 G.f1.f0,.int .i64 G.f1.f1] 31)) g5 #[.int .i64 x.f0.f0,.int .i64 x.f0.f1,.int .i64 x.f1.f0,.int .i64 x.f1.f1] 31:=(af m5 _)
  replace m7:iT (W2.alloc (.cells #[.int .i64 G.f0.f0,.int .i64 G.f0.f1,.int .i64 G.f1.f0,.int .i64 G.f1.f1] 31)) g7 #[.int .i64 hd,.int .i64 layer] 33:=(af m7 _)
  replace m8:iT (W2.alloc (.cells #[.int .i64 G.f0.f0,.int .i64 G.f0.f1,.int .i64 G.f1.f0,.int .i64 G.f1.f1] 31)) g8 #[.int .i64 0,.int .i64 0,.int .i64 0,.int .i64 0] 31:=(af m8 _)
  replace mB:Below w.heap.size w (W2.alloc (.cells #[.int .i64 G.f0.f0,.int .i64 G.f0.f1,.int .i64 G.f1.f0,.int .i64 G.f1.f1] 31)):=(au mB _)
  have qi:w.heap.size≤W2.heap.size:=zy
  generalize zx:(W2.alloc (.cells #[.int .i64 G.f0.f0,.int .i64 G.f0.f1,.int .i64 G.f1.f0,.int .i64 G.f1.f1] 31)) = W3 at m5 m7 m8 m10 mB ⊢
  clear zx
  generalize Qw:W2.heap.size = g10 at m10 ⊢
  have mU:g5≠g10:=by omega
  have GK:g7≠g10:=by omega
  have afz:g8≠g10:=by omega
  have KR:g10≠g5:=mU.symm
  have X0:g10≠g7:=GK.symm
  have axm:g10≠g8:=afz.symm
  have jl:w.heap.size≤g10:=by omega
  clear qi LJ aav ah0
  try clear Qw
  have Jc:w.heap.size≤W3.heap.size:=mB.size
  have hcon:=kS W3 (hT.below mB)
  (with_reducible refine hcon.mono ?_)
  clear hcon
  rintro e W4 ⟨rfl,hb⟩
  replace m5:=ax m5 hb
  replace m7:=ax m7 hb
  replace m8:=ax m8 hb
  replace m10:=ax m10 hb
  replace mB:=ay mB hb
  clear hb
  have Rp:w.heap.size≤W4.heap.size:=mB.size
  clear kS
  rcases hsf with rfl|rfl
  case inr =>
   have HZ:Hid (DL s v x t = 21):=Lib.hid (HE2.out)
   try clear HE
   have Br:Hid (zJ s v x t hd layer = z31):=Lib.hid (HV.out.trans (if_neg (by rw [HZ.out];decide)))
   clear HV
   have ape:=(aa m8 0).trans rfl
   have apf:=(aa m8 1).trans rfl
   have aBR:=(aa m8 2).trans rfl
   have aBS:=(aa m8 3).trans rfl
   have apg:=ae m8 0
   have aph:=ae m8 1
   have aBT:=ae m8 2
   have aBU:=ae m8 3
   go_wp2
   exact bodyPost_ret (iw rfl _ _ g8 31 #[.int .i64 0,.int .i64 0,.int .i64 0,.int .i64 0] (0,0) _ rfl (aW (aW (aW (aW m8 0 (.int .i64 0) rfl) 1 (.int .i64 0) rfl) 2 (.int .i64 0) rfl) 3 (.int .i64 0) rfl) Try.underlying31 rfl (by kernel_rfl)) rfl ⟨by rw [Br.out,HZ.out];rfl,(Below.setCell (p:=⟨g8,3,none⟩) (Below.setCell (p:=⟨g8,2,none⟩) (Below.setCell (p:=⟨g8,1,none⟩) (Below.setCell (p:=⟨g8,0,none⟩) mB TK _) TK _) TK _) TK _)⟩
  case inl =>
   have Br:=Lib.hid (HV.out.trans (if_pos HE2.out))
   clear HV
   have GA:=(aa m5 0).trans rfl
   have II:=(aa m5 1).trans rfl
   have QA:=(aa m5 2).trans rfl
   have QB:=(aa m5 3).trans rfl
   have aiv:=(aa m7 0).trans rfl
   have aiw:=(aa m7 1).trans rfl
   have vF:=(aa m10 0).trans rfl
   have vG:=(aa m10 1).trans rfl
   have vH:=(aa m10 2).trans rfl
   have vI:=(aa m10 3).trans rfl
   go_wp2_with fail
   clear GA
   clear II
   clear QA
   clear QB
   clear aiv
   clear aiw
   clear vF
   clear vG
   clear vH
   clear vI
   have hcon:=kD W4 (hT.below mB)
   (with_reducible refine hcon.mono ?_)
   clear hcon
   rintro e W5 ⟨rfl,hb⟩
   replace m5:=ax m5 hb
   replace m7:=ax m7 hb
   replace m8:=ax m8 hb
   replace m10:=ax m10 hb
   replace mB:=ay mB hb
   clear hb
   have XG:w.heap.size≤W5.heap.size:=mB.size
   clear kD
   have ape:=(aa m8 0).trans rfl
   have apf:=(aa m8 1).trans rfl
   have aBR:=(aa m8 2).trans rfl
   have aBS:=(aa m8 3).trans rfl
   have apg:=ae m8 0
   have aph:=ae m8 1
   have aBT:=ae m8 2
   have aBU:=ae m8 3
   go_wp2
   exact bodyPost_ret (iw rfl _ _ g8 31 #[.int .i64 Y.f0.f0,.int .i64 Y.f0.f1,.int .i64 Y.f1.f0,.int .i64 Y.f1.f1] (0,0) _ rfl (aW (aW (aW (aW m8 0 (.int .i64 Y.f0.f0) rfl) 1 (.int .i64 Y.f0.f1) rfl) 2 (.int .i64 Y.f1.f0) rfl) 3 (.int .i64 Y.f1.f1) rfl) Try.underlying31 rfl (by kernel_rfl)) rfl ⟨by rw [Br.out,HE2.out];rfl,(Below.setCell (p:=⟨g8,3,none⟩) (Below.setCell (p:=⟨g8,2,none⟩) (Below.setCell (p:=⟨g8,1,none⟩) (Below.setCell (p:=⟨g8,0,none⟩) mB TK _) TK _) TK _) TK _)⟩
end Go.Proofs.Ytmhaiihjfgfaoaa.Gl
end
section
namespace Go.Proofs.Ytmhaiihjfgfaoaa.Pr
open Go.RowKit Go.Proofs.YtmhaiihjfgfaoaaW.PrintWords Go.Proofs.YtmhaiihjfgfaoaaW.PrintLast Go.Proofs.YtmhaiihjfgfaoaaW.PrintMore
attribute [local go_sem] fo fq gu gz fu
set_option linter.unusedVariables false
set_option linter.unusedSimpArgs false
def ek.f (a0:Int):Option (Int):=some (mx a0 (wrap64 (-a0)))
set_option maxHeartbeats 8000000 in
set_option maxRecDepth 100000 in
theorem ek.calls (a0:Int) (r:Int) (w:World) (h:ek.f a0 = some r):
 Calls Try.prog 117 #[.int .i64 a0] w fun e w'=>e = .returned (.int .i64 r)∧Below w.heap.size w w':=by
 have HB:=aj.mk (Below.refl w.heap.size w)
 have H:(some (mx a0 (wrap64 (-a0)))) = some r:=h
 clear h
 obtain ⟨ji2,afA⟩:∃ j_:Int,(mx a0 (wrap64 (-a0))) = j_:=⟨_,rfl⟩
 replace H:(some ji2) = some r:=by first|(rw [afA] at H;exact H)|(simp only [afA] at H ⊢;exact H)
 have aEk:(if a0 < (wrap64 (-a0)) then (wrap64 (-a0)) else a0) = ji2:=afA
 obtain rfl:=Option.some.inj H
 go_enter Try.func117,Try.ntmps117
 go_wp2
 go_ret
 exact ⟨by first|rfl|(simp [aQ,aT] <;> rfl)|(simp only [← afA];first|rfl|(simp [aQ,aT] <;> rfl))|(simp [*,aQ,aT] <;> rfl),by repeat (first|(with_reducible first|exact HB.out|apply au|apply ah|apply av)|exact HB.out)⟩
end Go.Proofs.Ytmhaiihjfgfaoaa.Pr
end
section
namespace Go.Proofs.Ytmhaiihjfgfaoaa.Pr
open Go.RowKit Go.Proofs.YtmhaiihjfgfaoaaW.PrintWords Go.Proofs.YtmhaiihjfgfaoaaW.PrintLast Go.Proofs.YtmhaiihjfgfaoaaW.PrintMore
attribute [local go_sem] fo fq gu gz fu
set_option linter.unusedVariables false
set_option linter.unusedSimpArgs false
def fZ.f (k:Nat) (aC:Int) (aD:Int) (aG:Int) (aH:Int):Option (Int):=(eB.f k (([(⟨aC,aD⟩:mZ),(⟨aG,aH⟩:mZ)]:List (mZ)))).bind fun t148=>(if t148 = 0 then ((ek.f aC).bind fun t149=>((ek.f aD).bind fun t150=>((ek.f aG).bind fun t151=>((ek.f aH).bind fun t152=>(if (mx (mx (mx t149 t150) t151) t152) > 268435456 then (some 2) else (some 0)))))) else (some t148))
def fZ.T4:Bool × List (List Nat × List Nat):=(true,[([],[]),([0],[0]),([1],[1]),([2],[2]),([],[]),([4],[4]),([5],[5]),([6,3],[6]),([],[]),([8],[8]),([9],[9]),([10,7],[10]),([],[]),([12],[12]),([13],[13]),([14,11],[14]),([3,7,11,15],[3,7,11,15]),([16],[16])])
def fZ.B4:List Nat:=[0,1,3,7,0,16,48,127,0,256,768,2047,0,4096,12288,32767,65535,131071]
theorem fZ.apy:vC .any (opsOf Try.f67 4) = fZ.T4:=by kernel_rfl
theorem fZ.agH:wu fZ.T4.2 fZ.B4 = true:=by kernel_rfl
set_option maxHeartbeats 8000000 in
set_option maxRecDepth 100000 in
theorem fZ.calls (k:Nat) (aC:Int) (aD:Int) (aG:Int) (aH:Int) (r:Int) (w:World) (h:fZ.f k aC aD aG aH = some r):
 Calls Try.prog 67 #[.agg #[.int .i64 aC,.int .i64 aD,.int .i64 aG,.int .i64 aH]] w fun e w'=>e = .returned (.int .i64 r)∧Below w.heap.size w w':=by
 have vT:=Try.underlying31
 have sU:=Try.underlying27
 have HB:=aj.mk (Below.refl w.heap.size w)
 have H:((eB.f k (([(⟨aC,aD⟩:mZ),(⟨aG,aH⟩:mZ)]:List (mZ)))).bind fun t148=>(if t148 = 0 then ((ek.f aC).bind fun t149=>((ek.f aD).bind fun t150=>((ek.f aG).bind fun t151=>((ek.f aH).bind fun t152=>(if (mx (mx (mx t149 t150) t151) t152) > 268435456 then (some 2) else (some 0)))))) else (some t148))) = some r:=h
 clear h
 obtain ⟨TW,RA⟩:∃ y_:List (mZ),y_ = (([(⟨aC,aD⟩:mZ),(⟨aG,aH⟩:mZ)]:List (mZ))):=⟨_,rfl⟩
 replace H:((eB.f k TW).bind fun t148=>(if t148 = 0 then ((ek.f aC).bind fun t149=>((ek.f aD).bind fun t150=>((ek.f aG).bind fun t151=>((ek.f aH).bind fun t152=>(if (mx (mx (mx t149 t150) t151) t152) > 268435456 then (some 2) else (some 0)))))) else (some t148))) = some r:=by first|(rw [RA];with_reducible exact H)|(have G7:=(Option.bind_some _ _).symm.trans H;rw [RA];with_reducible exact G7)|(have G7:=(Option.bind_some _ _).symm.trans H;with_reducible exact G7)|with_reducible exact H|(rw [RA];exact H)|exact H
 have Nw:=aj.mk RA
 clear RA
 replace H:=Option.bind_eq_some_iff.mp H
 obtain ⟨t148,RY,H⟩:=H
 replace H:(if t148 = 0 then ((ek.f aC).bind fun t149=>((ek.f aD).bind fun t150=>((ek.f aG).bind fun t151=>((ek.f aH).bind fun t152=>(if (mx (mx (mx t149 t150) t151) t152) > 268435456 then (some 2) else (some 0)))))) else (some t148)) = some r:=H
 have A2:=aj.mk RY
 clear RY
 by_cases c3:t148 = 0
 ·rw [if_pos c3] at H
  have Jh:(t148 == 0) = true:=beq_iff_eq.mpr c3
  have ZC:(t148 != 0) = false:=bne_eq_false_iff_eq.mpr c3
  clear c3
  replace H:=Option.bind_eq_some_iff.mp H
  obtain ⟨t149,Nl,H⟩:=H
  replace H:((ek.f aD).bind fun t150=>((ek.f aG).bind fun t151=>((ek.f aH).bind fun t152=>(if (mx (mx (mx t149 t150) t151) t152) > 268435456 then (some 2) else (some 0))))) = some r:=H
  have A4:=aj.mk Nl
  clear Nl
  replace H:=Option.bind_eq_some_iff.mp H
  obtain ⟨t150,Vs,H⟩:=H
  replace H:((ek.f aG).bind fun t151=>((ek.f aH).bind fun t152=>(if (mx (mx (mx t149 t150) t151) t152) > 268435456 then (some 2) else (some 0)))) = some r:=H
  have A5:=aj.mk Vs
  clear Vs
  replace H:=Option.bind_eq_some_iff.mp H
  obtain ⟨t151,VN,H⟩:=H
  replace H:((ek.f aH).bind fun t152=>(if (mx (mx (mx t149 t150) t151) t152) > 268435456 then (some 2) else (some 0))) = some r:=H
  have A6:=aj.mk VN
  clear VN
  replace H:=Option.bind_eq_some_iff.mp H
  obtain ⟨t152,A70,H⟩:=H
  replace H:(if (mx (mx (mx t149 t150) t151) t152) > 268435456 then (some 2) else (some 0)) = some r:=H
  have A7:=aj.mk A70
  clear A70
  obtain ⟨ji8,MJ⟩:∃ j_:Int,(mx t149 t150) = j_:=⟨_,rfl⟩
  replace H:(if (mx (mx (ji8) t151) t152) > 268435456 then (some 2) else (some 0)) = some r:=by first|(rw [MJ] at H;exact H)|(simp only [MJ] at H ⊢;exact H)
  (try rw [MJ] at A2)
  (try rw [MJ] at A4)
  (try rw [MJ] at A5)
  (try rw [MJ] at A6)
  (try rw [MJ] at A7)
  have aEl:(if t149 < t150 then t150 else t149) = ji8:=MJ
  obtain ⟨ji9,MK⟩:∃ j_:Int,(mx (ji8) t151) = j_:=⟨_,rfl⟩
  replace H:(if (mx (ji9) t152) > 268435456 then (some 2) else (some 0)) = some r:=by first|(rw [MK] at H;exact H)|(simp only [MK] at H ⊢;exact H)
  (try rw [MK] at A2)
  (try rw [MK] at A4)
  (try rw [MK] at A5)
  (try rw [MK] at A6)
  (try rw [MK] at A7)
  have aEm:(if (ji8) < t151 then t151 else (ji8)) = ji9:=MK
  obtain ⟨aaZ,DN⟩:∃ j_:Int,(mx (ji9) t152) = j_:=⟨_,rfl⟩
  replace H:(if (aaZ) > 268435456 then (some 2) else (some 0)) = some r:=by first|(rw [DN] at H;exact H)|(simp only [DN] at H ⊢;exact H)
  (try rw [DN] at A2)
  (try rw [DN] at A4)
  (try rw [DN] at A5)
  (try rw [DN] at A6)
  (try rw [DN] at A7)
  have aBV:(if (ji9) < t152 then t152 else (ji9)) = aaZ:=DN
  by_cases c11:(aaZ) > 268435456
  ·rw [if_pos c11] at H
   have LB:decide (268435456 < (aaZ)) = true:=decide_eq_true c11
   clear c11
   obtain rfl:=Option.some.inj H
   go_enter Try.func67,Try.ntmps67
   try go_wp2_with (first|((with_reducible refine bu (N:=1) rfl ?_);refine aY ?hg (N:=1) ?hd (cs:=#[.int .i64 aC,.int .i64 aD,.int .i64 aG,.int .i64 aH]) (t:=31) ?hr ?_;(case hd=>rfl);(case hg=>rfl);(case hr=>first|(go_simp;done)|(go_simp;rfl));intro kr hg qB hbox hb;have bB:=aj.mk (ay (by repeat (first|(with_reducible first|exact HB.out|apply au|apply ah|apply av)|exact HB.out)) hb);have bC:=aj.mk (hbox);have bK:=aj.mk ((by rw [hg];exact (aA (by repeat (first|(with_reducible first|exact HB.out|apply au|apply ah|apply av)|exact HB.out))):w.heap.size≤kr));have bP:=aj.mk ((by rw [hg];exact (aA (by repeat (first|(with_reducible first|exact HB.out|apply au|apply ah|apply av)|exact HB.out))):w.heap.size≤kr));clear HB;have HB:=bB;have dZ:=bC;have agI:=bK;have rD:=bP;clear bB bC bK bP;clear hb hbox hg;have uX:qB.cell? ⟨kr,0,none⟩ = some (.int .i64 aC):=(aa dZ.out 0).trans rfl;have uY:qB.cell? ⟨kr,1,none⟩ = some (.int .i64 aD):=(aa dZ.out 1).trans rfl;have Ai:qB.cell? ⟨kr,2,none⟩ = some (.int .i64 aG):=(aa dZ.out 2).trans rfl;have Aj:qB.cell? ⟨kr,3,none⟩ = some (.int .i64 aH):=(aa dZ.out 3).trans rfl;have uZ:=ae dZ.out 0;have ve:=ae dZ.out 1;have Ak:=ae dZ.out 2;have Al:=ae dZ.out 3)|((with_reducible refine bu (N:=8) rfl ?_);refine Kd.MQ k27 _ 27 ?hg (N:=8) ?hd (xs:=([(⟨aC,aD⟩:mZ),(⟨aG,aH⟩:mZ)]:List (mZ))) (inner:=[.int .i64 aC,.int .i64 aD,.int .i64 aG,.int .i64 aH]) (ok:=fun _=>True) (okp:=fun _=>True) ?hr ?hp (fun _ hk=>hk) trivial (Below.refl _ _) (Nat.le_refl _) (by simp) ?_;(case hd=>rfl);(case hg=>rfl);(case hr=>first|(go_simp;done)|(go_simp;rfl));(case hp=>exact (oU.c2 (show Kd.M k27 _ _ _ (⟨aC,aD⟩:mZ) [.int .i64 aC,.int .i64 aD] from (wC _ _ _ (⟨aC,aD⟩:mZ))) (oU.c2 (show Kd.M k27 _ _ _ (⟨aG,aH⟩:mZ) [.int .i64 aG,.int .i64 aH] from (wC _ _ _ (⟨aG,aH⟩:mZ))) (oU.none _ _))));intro v146 R9 aa0 hb Zj Bg;clear Zj Bg;(first|rw [← Nw.out] at aa0|(simp only [Int.reduceToNat] at aa0;rw [← Nw.out] at aa0));have bB:=aj.mk (Kd.vY aa0 (aA (by repeat (first|(with_reducible first|exact HB.out|apply au|apply ah|apply av|refine ak ?_ rD.out)|exact HB.out))));have bC:=aj.mk (ax (g:=kr) (o:=.cells #[.int .i64 aC,.int .i64 aD,.int .i64 aG,.int .i64 aH] 31 (0,0)) (by (with_reducible repeat (first|refine ag ?_ _|refine ai ?_|refine af ?_ _));exact dZ.out) hb);have bK:=aj.mk (ay (by repeat (first|(with_reducible first|exact HB.out|apply au|apply ah|apply av|refine ak ?_ rD.out)|exact HB.out)) hb);clear dZ;clear HB;have je:=bB;have dZ:=bC;have HB:=bK;clear bB bC bK;clear hb aa0;obtain ⟨aBW,aBX,aBY⟩:=Kd.pR je.out;subst aBY)|((with_reducible refine bT (f:=116) rfl ?_);refine fM (some 9) rfl rfl Try.func116 (by kernel_rfl) rfl #[.slice aBW TW.length aBX] rfl (by (try simp only [List.map_toArray,List.map_cons,List.map_nil]);first|done|rfl|(simp only [List.length_drop,List.length_take];rfl)) ?_;(with_reducible refine (eB.calls k _ _ TW t148 _ ?gm ?gp A2.out).mono ?_);(case gm=>repeat (first|exact (Kd.iF je.out).2.2|(with_reducible refine Kd.dO ?_ _)|(with_reducible refine Kd.dP ?_ _)|(with_reducible refine Kd.eO ?_)));(case gp=>exact (Kd.iF je.out).2.1);rintro e zK ⟨rfl,hb⟩;refine ⟨_,rfl,?_⟩;have bB:=aj.mk (Kd.gL (by (with_reducible repeat (first|apply Kd.eD|apply Kd.eF|apply Kd.fF));exact je.out) hb);have bC:=aj.mk (ax (g:=kr) (o:=.cells #[.int .i64 aC,.int .i64 aD,.int .i64 aG,.int .i64 aH] 31 (0,0)) (by (with_reducible repeat (first|refine ag ?_ _|refine ai ?_|refine af ?_ _));exact dZ.out) hb);have bK:=aj.mk (ay (by repeat (first|(with_reducible first|exact HB.out|apply au|apply ah|apply av|refine ak ?_ rD.out)|exact HB.out)) hb);clear je;clear dZ;clear HB;have je:=bB;have dZ:=bC;have HB:=bK;clear bB bC bK;(try clear hb);(try clear hb2);(try clear hk);(try clear hi)))
   have bB:=aj.mk (Kd.fF je.out)
   have bC:=aj.mk (ai dZ.out)
   have bK:=aj.mk (av HB.out)
   clear je
   clear dZ
   clear HB
   have je:=bB
   have dZ:=bC
   have HB:=bK
   clear bB bC bK
   refine qg (n:=18) (S:=fun w'=>w'.cell? ⟨kr,0,none⟩ = some (.int .i64 aC)∧w'.cell? ⟨kr,1,none⟩ = some (.int .i64 aD)∧w'.cell? ⟨kr,2,none⟩ = some (.int .i64 aG)∧w'.cell? ⟨kr,3,none⟩ = some (.int .i64 aH)) (ds:=[]) #[false,false,false,false,false,false,false,false,false,false,false,false,false,false,false,false,false,false] (by kernel_rfl) rfl rfl ⟨(aa dZ.out 0).trans rfl,(aa dZ.out 1).trans rfl,(aa dZ.out 2).trans rfl,(aa dZ.out 3).trans rfl⟩ (fun hHeld=>?_);refine si fZ.apy fZ.agH (fun iD wX=>?_)
   generalize zK.drew = Bc at je dZ HB hHeld ⊢
   refine bU (i:=0) (N:=some 13) (v:=?_) (a':=?_) #[true,false,false,false,false,false,false,false,false,false,false,false,false,false,false,false,false,false] rfl rfl (dC iD.out (by kernel_rfl)) (fun _ _ _ h=>h) (Or.inl ⟨by rfl,?_⟩) ?_ ?_
   rotate_left
   ·intro w'
    go_simp
    with_reducible rfl
   rotate_left
   ·simp only [Act.put,List.setIfInBounds_toArray,List.set_cons_zero,List.set_cons_succ,aZ,bf]
    rfl
   refine bU (i:=1) (N:=some 14) (v:=?_) (a':=?_) #[true,true,false,false,false,false,false,false,false,false,false,false,false,false,false,false,false,false] rfl rfl (dC iD.out (by kernel_rfl)) (fun _ _ _ h=>h) (Or.inl ⟨by rfl,?_⟩) ?_ ?_
   rotate_left
   ·intro w'
    go_simp
    with_reducible rfl
   rotate_left
   ·simp only [Act.put,List.setIfInBounds_toArray,List.set_cons_zero,List.set_cons_succ,aZ,bf]
    rfl
   refine bU (i:=4) (N:=some 17) (v:=?_) (a':=?_) #[true,true,false,false,true,false,false,false,false,false,false,false,false,false,false,false,false,false] rfl rfl (dC iD.out (by kernel_rfl)) (fun _ _ _ h=>h) (Or.inl ⟨by rfl,?_⟩) ?_ ?_
   rotate_left
   ·intro w'
    go_simp
    with_reducible rfl
   rotate_left
   ·simp only [Act.put,List.setIfInBounds_toArray,List.set_cons_zero,List.set_cons_succ,aZ,bf]
    rfl
   refine bU (i:=5) (N:=some 18) (v:=?_) (a':=?_) #[true,true,false,false,true,true,false,false,false,false,false,false,false,false,false,false,false,false] rfl rfl (dC iD.out (by kernel_rfl)) (fun _ _ _ h=>h) (Or.inl ⟨by rfl,?_⟩) ?_ ?_
   rotate_left
   ·intro w'
    go_simp
    with_reducible rfl
   rotate_left
   ·simp only [Act.put,List.setIfInBounds_toArray,List.set_cons_zero,List.set_cons_succ,aZ,bf]
    rfl
   refine bU (i:=8) (N:=some 21) (v:=?_) (a':=?_) #[true,true,false,false,true,true,false,false,true,false,false,false,false,false,false,false,false,false] rfl rfl (dC iD.out (by kernel_rfl)) (fun _ _ _ h=>h) (Or.inl ⟨by rfl,?_⟩) ?_ ?_
   rotate_left
   ·intro w'
    go_simp
    with_reducible rfl
   rotate_left
   ·simp only [Act.put,List.setIfInBounds_toArray,List.set_cons_zero,List.set_cons_succ,aZ,bf]
    rfl
   refine bU (i:=9) (N:=some 22) (v:=?_) (a':=?_) #[true,true,false,false,true,true,false,false,true,true,false,false,false,false,false,false,false,false] rfl rfl (dC iD.out (by kernel_rfl)) (fun _ _ _ h=>h) (Or.inl ⟨by rfl,?_⟩) ?_ ?_
   rotate_left
   ·intro w'
    go_simp
    with_reducible rfl
   rotate_left
   ·simp only [Act.put,List.setIfInBounds_toArray,List.set_cons_zero,List.set_cons_succ,aZ,bf]
    rfl
   refine bU (i:=12) (N:=some 25) (v:=?_) (a':=?_) #[true,true,false,false,true,true,false,false,true,true,false,false,true,false,false,false,false,false] rfl rfl (dC iD.out (by kernel_rfl)) (fun _ _ _ h=>h) (Or.inl ⟨by rfl,?_⟩) ?_ ?_
   rotate_left
   ·intro w'
    go_simp
    with_reducible rfl
   rotate_left
   ·simp only [Act.put,List.setIfInBounds_toArray,List.set_cons_zero,List.set_cons_succ,aZ,bf]
    rfl
   refine bU (i:=13) (N:=some 26) (v:=?_) (a':=?_) #[true,true,false,false,true,true,false,false,true,true,false,false,true,true,false,false,false,false] rfl rfl (dC iD.out (by kernel_rfl)) (fun _ _ _ h=>h) (Or.inl ⟨by rfl,?_⟩) ?_ ?_
   rotate_left
   ·intro w'
    go_simp
    with_reducible rfl
   rotate_left
   ·simp only [Act.put,List.setIfInBounds_toArray,List.set_cons_zero,List.set_cons_succ,aZ,bf]
    rfl
   refine gB (i:=2) (N:=some 15) (v:=?_) (a':=?_) #[true,true,true,false,true,true,false,false,true,true,false,false,true,true,false,false,false,false] rfl rfl (gJ iD.out wX.out (by kernel_rfl)) (fun _ _ _ h=>h) (Or.inl ⟨by rfl,?_⟩) hHeld ?_ ?_
   rotate_left
   ·rintro w' ⟨s0,s1,s2,s3⟩
    go_simp
    with_reducible rfl
   rotate_left
   ·simp only [Act.put,List.setIfInBounds_toArray,List.set_cons_zero,List.set_cons_succ,aZ,bf]
    rfl
   refine gB (i:=6) (N:=some 19) (v:=?_) (a':=?_) #[true,true,true,false,true,true,true,false,true,true,false,false,true,true,false,false,false,false] rfl rfl (gJ iD.out wX.out (by kernel_rfl)) (fun _ _ _ h=>h) (Or.inl ⟨by rfl,?_⟩) hHeld ?_ ?_
   rotate_left
   ·rintro w' ⟨s0,s1,s2,s3⟩
    go_simp
    with_reducible rfl
   rotate_left
   ·simp only [Act.put,List.setIfInBounds_toArray,List.set_cons_zero,List.set_cons_succ,aZ,bf]
    rfl
   refine gB (i:=10) (N:=some 23) (v:=?_) (a':=?_) #[true,true,true,false,true,true,true,false,true,true,true,false,true,true,false,false,false,false] rfl rfl (gJ iD.out wX.out (by kernel_rfl)) (fun _ _ _ h=>h) (Or.inl ⟨by rfl,?_⟩) hHeld ?_ ?_
   rotate_left
   ·rintro w' ⟨s0,s1,s2,s3⟩
    go_simp
    with_reducible rfl
   rotate_left
   ·simp only [Act.put,List.setIfInBounds_toArray,List.set_cons_zero,List.set_cons_succ,aZ,bf]
    rfl
   refine gB (i:=14) (N:=some 27) (v:=?_) (a':=?_) #[true,true,true,false,true,true,true,false,true,true,true,false,true,true,true,false,false,false] rfl rfl (gJ iD.out wX.out (by kernel_rfl)) (fun _ _ _ h=>h) (Or.inl ⟨by rfl,?_⟩) hHeld ?_ ?_
   rotate_left
   ·rintro w' ⟨s0,s1,s2,s3⟩
    go_simp
    with_reducible rfl
   rotate_left
   ·simp only [Act.put,List.setIfInBounds_toArray,List.set_cons_zero,List.set_cons_succ,aZ,bf]
    rfl
   refine o7 (i:=3) (N:=some 16) #[true,true,true,true,true,true,true,false,true,true,true,false,true,true,true,false,false,false] rfl rfl (l9 iD.out (by kernel_rfl)) (by decide) (fun K hK=>?_)
   refine kP Try.func117 (by kernel_rfl) rfl #[.int .i64 aC] (by rfl) rfl rfl (by (try simp only [List.map_toArray,List.map_cons,List.map_nil]);first|done|rfl|(simp only [List.length_drop,List.length_take];rfl)) ?_
   with_reducible refine (ek.calls aC t149 _ A4.out).mono ?_
   rintro e Q9 ⟨rfl,hb⟩
   refine ⟨_,rfl,?_⟩
   have bB:=aj.mk (Kd.gL (by (with_reducible repeat (first|apply Kd.eD|apply Kd.eF|apply Kd.fF));exact je.out) hb)
   have bC:=aj.mk (ax (g:=kr) (o:=.cells #[.int .i64 aC,.int .i64 aD,.int .i64 aG,.int .i64 aH] 31 (0,0)) (by (with_reducible repeat (first|refine ag ?_ _|refine ai ?_|refine af ?_ _));exact dZ.out) hb)
   have bK:=aj.mk (ay (by repeat (first|(with_reducible first|exact HB.out|apply au|apply ah|apply av|refine ak ?_ rD.out)|exact HB.out)) hb)
   clear je
   clear dZ
   clear HB
   have je:=bB
   have dZ:=bC
   have HB:=bK
   clear bB bC bK
   (try clear hb)
   (try clear hb2)
   (try clear hk)
   (try clear hi)
   refine hK.out _ _ ⟨(aa dZ.out 0).trans rfl,(aa dZ.out 1).trans rfl,(aa dZ.out 2).trans rfl,(aa dZ.out 3).trans rfl⟩ (fun hHeld=>?_)
   clear hK K
   refine iP (a':=?_) ?_ ?_
   rotate_left
   ·show Act.put _ (some 16) _ = _
    simp only [Act.put,List.setIfInBounds_toArray,List.set_cons_zero,List.set_cons_succ,aZ,bf]
    rfl
   refine o7 (i:=7) (N:=some 20) #[true,true,true,true,true,true,true,true,true,true,true,false,true,true,true,false,false,false] rfl rfl (l9 iD.out (by kernel_rfl)) (by decide) (fun K hK=>?_)
   refine kP Try.func117 (by kernel_rfl) rfl #[.int .i64 aD] (by rfl) rfl rfl (by (try simp only [List.map_toArray,List.map_cons,List.map_nil]);first|done|rfl|(simp only [List.length_drop,List.length_take];rfl)) ?_
   with_reducible refine (ek.calls aD t150 _ A5.out).mono ?_
   rintro e rO ⟨rfl,hb⟩
   refine ⟨_,rfl,?_⟩
   have bB:=aj.mk (Kd.gL (by (with_reducible repeat (first|apply Kd.eD|apply Kd.eF|apply Kd.fF));exact je.out) hb)
   have bC:=aj.mk (ax (g:=kr) (o:=.cells #[.int .i64 aC,.int .i64 aD,.int .i64 aG,.int .i64 aH] 31 (0,0)) (by (with_reducible repeat (first|refine ag ?_ _|refine ai ?_|refine af ?_ _));exact dZ.out) hb)
   have bK:=aj.mk (ay (by repeat (first|(with_reducible first|exact HB.out|apply au|apply ah|apply av|refine ak ?_ rD.out)|exact HB.out)) hb)
   clear je
   clear dZ
   clear HB
   have je:=bB
   have dZ:=bC
   have HB:=bK
   clear bB bC bK
   (try clear hb)
   (try clear hb2)
   (try clear hk)
   (try clear hi)
   refine hK.out _ _ ⟨(aa dZ.out 0).trans rfl,(aa dZ.out 1).trans rfl,(aa dZ.out 2).trans rfl,(aa dZ.out 3).trans rfl⟩ (fun hHeld=>?_)
   clear hK K
   refine iP (a':=?_) ?_ ?_
   rotate_left
   ·show Act.put _ (some 20) _ = _
    simp only [Act.put,List.setIfInBounds_toArray,List.set_cons_zero,List.set_cons_succ,aZ,bf]
    rfl
   refine o7 (i:=11) (N:=some 24) #[true,true,true,true,true,true,true,true,true,true,true,true,true,true,true,false,false,false] rfl rfl (l9 iD.out (by kernel_rfl)) (by decide) (fun K hK=>?_)
   refine kP Try.func117 (by kernel_rfl) rfl #[.int .i64 aG] (by rfl) rfl rfl (by (try simp only [List.map_toArray,List.map_cons,List.map_nil]);first|done|rfl|(simp only [List.length_drop,List.length_take];rfl)) ?_
   with_reducible refine (ek.calls aG t151 _ A6.out).mono ?_
   rintro e RX ⟨rfl,hb⟩
   refine ⟨_,rfl,?_⟩
   have bB:=aj.mk (Kd.gL (by (with_reducible repeat (first|apply Kd.eD|apply Kd.eF|apply Kd.fF));exact je.out) hb)
   have bC:=aj.mk (ax (g:=kr) (o:=.cells #[.int .i64 aC,.int .i64 aD,.int .i64 aG,.int .i64 aH] 31 (0,0)) (by (with_reducible repeat (first|refine ag ?_ _|refine ai ?_|refine af ?_ _));exact dZ.out) hb)
   have bK:=aj.mk (ay (by repeat (first|(with_reducible first|exact HB.out|apply au|apply ah|apply av|refine ak ?_ rD.out)|exact HB.out)) hb)
   clear je
   clear dZ
   clear HB
   have je:=bB
   have dZ:=bC
   have HB:=bK
   clear bB bC bK
   (try clear hb)
   (try clear hb2)
   (try clear hk)
   (try clear hi)
   refine hK.out _ _ ⟨(aa dZ.out 0).trans rfl,(aa dZ.out 1).trans rfl,(aa dZ.out 2).trans rfl,(aa dZ.out 3).trans rfl⟩ (fun hHeld=>?_)
   clear hK K
   refine iP (a':=?_) ?_ ?_
   rotate_left
   ·show Act.put _ (some 24) _ = _
    simp only [Act.put,List.setIfInBounds_toArray,List.set_cons_zero,List.set_cons_succ,aZ,bf]
    rfl
   refine o7 (i:=15) (N:=some 28) #[true,true,true,true,true,true,true,true,true,true,true,true,true,true,true,true,false,false] rfl rfl (l9 iD.out (by kernel_rfl)) (by decide) (fun K hK=>?_)
   refine kP Try.func117 (by kernel_rfl) rfl #[.int .i64 aH] (by rfl) rfl rfl (by (try simp only [List.map_toArray,List.map_cons,List.map_nil]);first|done|rfl|(simp only [List.length_drop,List.length_take];rfl)) ?_
   with_reducible refine (ek.calls aH t152 _ A7.out).mono ?_
   rintro e IX ⟨rfl,hb⟩
   refine ⟨_,rfl,?_⟩
   have bB:=aj.mk (Kd.gL (by (with_reducible repeat (first|apply Kd.eD|apply Kd.eF|apply Kd.fF));exact je.out) hb)
   have bC:=aj.mk (ax (g:=kr) (o:=.cells #[.int .i64 aC,.int .i64 aD,.int .i64 aG,.int .i64 aH] 31 (0,0)) (by (with_reducible repeat (first|refine ag ?_ _|refine ai ?_|refine af ?_ _));exact dZ.out) hb)
   have bK:=aj.mk (ay (by repeat (first|(with_reducible first|exact HB.out|apply au|apply ah|apply av|refine ak ?_ rD.out)|exact HB.out)) hb)
   clear je
   clear dZ
   clear HB
   have je:=bB
   have dZ:=bC
   have HB:=bK
   clear bB bC bK
   (try clear hb)
   (try clear hb2)
   (try clear hk)
   (try clear hi)
   refine hK.out _ _ ⟨(aa dZ.out 0).trans rfl,(aa dZ.out 1).trans rfl,(aa dZ.out 2).trans rfl,(aa dZ.out 3).trans rfl⟩ (fun hHeld=>?_)
   clear hK K
   refine iP (a':=?_) ?_ ?_
   rotate_left
   ·show Act.put _ (some 28) _ = _
    simp only [Act.put,List.setIfInBounds_toArray,List.set_cons_zero,List.set_cons_succ,aZ,bf]
    rfl
   refine bU (i:=16) (N:=some 29) (v:=?_) (a':=?_) #[true,true,true,true,true,true,true,true,true,true,true,true,true,true,true,true,true,false] rfl rfl (dC iD.out (by kernel_rfl)) (fun _ _ _ h=>h) (Or.inl ⟨by rfl,?_⟩) ?_ ?_
   rotate_left
   ·intro w'
    go_simp
    with_reducible rfl
   rotate_left
   ·simp only [Act.put,List.setIfInBounds_toArray,List.set_cons_zero,List.set_cons_succ,aZ,bf]
    rfl
   refine bU (i:=17) (N:=some 30) (v:=?_) (a':=?_) #[true,true,true,true,true,true,true,true,true,true,true,true,true,true,true,true,true,true] rfl rfl (dC iD.out (by kernel_rfl)) (fun _ _ _ h=>h) (Or.inl ⟨by rfl,?_⟩) ?_ ?_
   rotate_left
   ·intro w'
    go_simp
    with_reducible rfl
   rotate_left
   ·simp only [Act.put,List.setIfInBounds_toArray,List.set_cons_zero,List.set_cons_succ,aZ,bf]
    rfl
   refine tT (yh iD.out (by kernel_rfl)) ?_
   try go_wp2
   go_ret
   exact ⟨by first|rfl|(simp [aQ,aT] <;> rfl)|(simp only [← MJ,← MK,← DN];first|rfl|(simp [aQ,aT] <;> rfl))|(simp [*,aQ,aT] <;> rfl),by repeat (first|(with_reducible first|exact HB.out|apply au|apply ah|apply av|refine ak ?_ rD.out)|exact HB.out)⟩
  ·rw [if_neg c11] at H
   have LB:decide (268435456 < (aaZ)) = false:=decide_eq_false c11
   clear c11
   obtain rfl:=Option.some.inj H
   go_enter Try.func67,Try.ntmps67
   try go_wp2_with (first|((with_reducible refine bu (N:=1) rfl ?_);refine aY ?hg (N:=1) ?hd (cs:=#[.int .i64 aC,.int .i64 aD,.int .i64 aG,.int .i64 aH]) (t:=31) ?hr ?_;(case hd=>rfl);(case hg=>rfl);(case hr=>first|(go_simp;done)|(go_simp;rfl));intro kr hg Ev hbox hb;have bB:=aj.mk (ay (by repeat (first|(with_reducible first|exact HB.out|apply au|apply ah|apply av)|exact HB.out)) hb);have bC:=aj.mk (hbox);have bK:=aj.mk ((by rw [hg];exact (aA (by repeat (first|(with_reducible first|exact HB.out|apply au|apply ah|apply av)|exact HB.out))):w.heap.size≤kr));have bP:=aj.mk ((by rw [hg];exact (aA (by repeat (first|(with_reducible first|exact HB.out|apply au|apply ah|apply av)|exact HB.out))):w.heap.size≤kr));clear HB;have HB:=bB;have dZ:=bC;have agI:=bK;have rD:=bP;clear bB bC bK bP;clear hb hbox hg;have sO:Ev.cell? ⟨kr,0,none⟩ = some (.int .i64 aC):=(aa dZ.out 0).trans rfl;have sP:Ev.cell? ⟨kr,1,none⟩ = some (.int .i64 aD):=(aa dZ.out 1).trans rfl;have uN:Ev.cell? ⟨kr,2,none⟩ = some (.int .i64 aG):=(aa dZ.out 2).trans rfl;have uO:Ev.cell? ⟨kr,3,none⟩ = some (.int .i64 aH):=(aa dZ.out 3).trans rfl;have sQ:=ae dZ.out 0;have sS:=ae dZ.out 1;have uP:=ae dZ.out 2;have uQ:=ae dZ.out 3)|((with_reducible refine bu (N:=8) rfl ?_);refine Kd.MQ k27 _ 27 ?hg (N:=8) ?hd (xs:=([(⟨aC,aD⟩:mZ),(⟨aG,aH⟩:mZ)]:List (mZ))) (inner:=[.int .i64 aC,.int .i64 aD,.int .i64 aG,.int .i64 aH]) (ok:=fun _=>True) (okp:=fun _=>True) ?hr ?hp (fun _ hk=>hk) trivial (Below.refl _ _) (Nat.le_refl _) (by simp) ?_;(case hd=>rfl);(case hg=>rfl);(case hr=>first|(go_simp;done)|(go_simp;rfl));(case hp=>exact (oU.c2 (show Kd.M k27 _ _ _ (⟨aC,aD⟩:mZ) [.int .i64 aC,.int .i64 aD] from (wC _ _ _ (⟨aC,aD⟩:mZ))) (oU.c2 (show Kd.M k27 _ _ _ (⟨aG,aH⟩:mZ) [.int .i64 aG,.int .i64 aH] from (wC _ _ _ (⟨aG,aH⟩:mZ))) (oU.none _ _))));intro v146 TA aa1 hb Zj Bg;clear Zj Bg;(first|rw [← Nw.out] at aa1|(simp only [Int.reduceToNat] at aa1;rw [← Nw.out] at aa1));have bB:=aj.mk (Kd.vY aa1 (aA (by repeat (first|(with_reducible first|exact HB.out|apply au|apply ah|apply av|refine ak ?_ rD.out)|exact HB.out))));have bC:=aj.mk (ax (g:=kr) (o:=.cells #[.int .i64 aC,.int .i64 aD,.int .i64 aG,.int .i64 aH] 31 (0,0)) (by (with_reducible repeat (first|refine ag ?_ _|refine ai ?_|refine af ?_ _));exact dZ.out) hb);have bK:=aj.mk (ay (by repeat (first|(with_reducible first|exact HB.out|apply au|apply ah|apply av|refine ak ?_ rD.out)|exact HB.out)) hb);clear dZ;clear HB;have je:=bB;have dZ:=bC;have HB:=bK;clear bB bC bK;clear hb aa1;obtain ⟨aBZ,aB0,aB1⟩:=Kd.pR je.out;subst aB1)|((with_reducible refine bT (f:=116) rfl ?_);refine fM (some 9) rfl rfl Try.func116 (by kernel_rfl) rfl #[.slice aBZ TW.length aB0] rfl (by (try simp only [List.map_toArray,List.map_cons,List.map_nil]);first|done|rfl|(simp only [List.length_drop,List.length_take];rfl)) ?_;(with_reducible refine (eB.calls k _ _ TW t148 _ ?gm ?gp A2.out).mono ?_);(case gm=>repeat (first|exact (Kd.iF je.out).2.2|(with_reducible refine Kd.dO ?_ _)|(with_reducible refine Kd.dP ?_ _)|(with_reducible refine Kd.eO ?_)));(case gp=>exact (Kd.iF je.out).2.1);rintro e BL ⟨rfl,hb⟩;refine ⟨_,rfl,?_⟩;have bB:=aj.mk (Kd.gL (by (with_reducible repeat (first|apply Kd.eD|apply Kd.eF|apply Kd.fF));exact je.out) hb);have bC:=aj.mk (ax (g:=kr) (o:=.cells #[.int .i64 aC,.int .i64 aD,.int .i64 aG,.int .i64 aH] 31 (0,0)) (by (with_reducible repeat (first|refine ag ?_ _|refine ai ?_|refine af ?_ _));exact dZ.out) hb);have bK:=aj.mk (ay (by repeat (first|(with_reducible first|exact HB.out|apply au|apply ah|apply av|refine ak ?_ rD.out)|exact HB.out)) hb);clear je;clear dZ;clear HB;have je:=bB;have dZ:=bC;have HB:=bK;clear bB bC bK;(try clear hb);(try clear hb2);(try clear hk);(try clear hi)))
   have bB:=aj.mk (Kd.fF je.out)
   have bC:=aj.mk (ai dZ.out)
   have bK:=aj.mk (av HB.out)
   clear je
   clear dZ
   clear HB
   have je:=bB
   have dZ:=bC
   have HB:=bK
   clear bB bC bK
   refine qg (n:=18) (S:=fun w'=>w'.cell? ⟨kr,0,none⟩ = some (.int .i64 aC)∧w'.cell? ⟨kr,1,none⟩ = some (.int .i64 aD)∧w'.cell? ⟨kr,2,none⟩ = some (.int .i64 aG)∧w'.cell? ⟨kr,3,none⟩ = some (.int .i64 aH)) (ds:=[]) #[false,false,false,false,false,false,false,false,false,false,false,false,false,false,false,false,false,false] (by kernel_rfl) rfl rfl ⟨(aa dZ.out 0).trans rfl,(aa dZ.out 1).trans rfl,(aa dZ.out 2).trans rfl,(aa dZ.out 3).trans rfl⟩ (fun hHeld=>?_);refine si fZ.apy fZ.agH (fun iD wX=>?_)
   generalize BL.drew = Eu at je dZ HB hHeld ⊢
   refine bU (i:=0) (N:=some 13) (v:=?_) (a':=?_) #[true,false,false,false,false,false,false,false,false,false,false,false,false,false,false,false,false,false] rfl rfl (dC iD.out (by kernel_rfl)) (fun _ _ _ h=>h) (Or.inl ⟨by rfl,?_⟩) ?_ ?_
   rotate_left
   ·intro w'
    go_simp
    with_reducible rfl
   rotate_left
   ·simp only [Act.put,List.setIfInBounds_toArray,List.set_cons_zero,List.set_cons_succ,aZ,bf]
    rfl
   refine bU (i:=1) (N:=some 14) (v:=?_) (a':=?_) #[true,true,false,false,false,false,false,false,false,false,false,false,false,false,false,false,false,false] rfl rfl (dC iD.out (by kernel_rfl)) (fun _ _ _ h=>h) (Or.inl ⟨by rfl,?_⟩) ?_ ?_
   rotate_left
   ·intro w'
    go_simp
    with_reducible rfl
   rotate_left
   ·simp only [Act.put,List.setIfInBounds_toArray,List.set_cons_zero,List.set_cons_succ,aZ,bf]
    rfl
   refine bU (i:=4) (N:=some 17) (v:=?_) (a':=?_) #[true,true,false,false,true,false,false,false,false,false,false,false,false,false,false,false,false,false] rfl rfl (dC iD.out (by kernel_rfl)) (fun _ _ _ h=>h) (Or.inl ⟨by rfl,?_⟩) ?_ ?_
   rotate_left
   ·intro w'
    go_simp
    with_reducible rfl
   rotate_left
   ·simp only [Act.put,List.setIfInBounds_toArray,List.set_cons_zero,List.set_cons_succ,aZ,bf]
    rfl
   refine bU (i:=5) (N:=some 18) (v:=?_) (a':=?_) #[true,true,false,false,true,true,false,false,false,false,false,false,false,false,false,false,false,false] rfl rfl (dC iD.out (by kernel_rfl)) (fun _ _ _ h=>h) (Or.inl ⟨by rfl,?_⟩) ?_ ?_
   rotate_left
   ·intro w'
    go_simp
    with_reducible rfl
   rotate_left
   ·simp only [Act.put,List.setIfInBounds_toArray,List.set_cons_zero,List.set_cons_succ,aZ,bf]
    rfl
   refine bU (i:=8) (N:=some 21) (v:=?_) (a':=?_) #[true,true,false,false,true,true,false,false,true,false,false,false,false,false,false,false,false,false] rfl rfl (dC iD.out (by kernel_rfl)) (fun _ _ _ h=>h) (Or.inl ⟨by rfl,?_⟩) ?_ ?_
   rotate_left
   ·intro w'
    go_simp
    with_reducible rfl
   rotate_left
   ·simp only [Act.put,List.setIfInBounds_toArray,List.set_cons_zero,List.set_cons_succ,aZ,bf]
    rfl
   refine bU (i:=9) (N:=some 22) (v:=?_) (a':=?_) #[true,true,false,false,true,true,false,false,true,true,false,false,false,false,false,false,false,false] rfl rfl (dC iD.out (by kernel_rfl)) (fun _ _ _ h=>h) (Or.inl ⟨by rfl,?_⟩) ?_ ?_
   rotate_left
   ·intro w'
    go_simp
    with_reducible rfl
   rotate_left
   ·simp only [Act.put,List.setIfInBounds_toArray,List.set_cons_zero,List.set_cons_succ,aZ,bf]
    rfl
   refine bU (i:=12) (N:=some 25) (v:=?_) (a':=?_) #[true,true,false,false,true,true,false,false,true,true,false,false,true,false,false,false,false,false] rfl rfl (dC iD.out (by kernel_rfl)) (fun _ _ _ h=>h) (Or.inl ⟨by rfl,?_⟩) ?_ ?_
   rotate_left
   ·intro w'
    go_simp
    with_reducible rfl
   rotate_left
   ·simp only [Act.put,List.setIfInBounds_toArray,List.set_cons_zero,List.set_cons_succ,aZ,bf]
    rfl
   refine bU (i:=13) (N:=some 26) (v:=?_) (a':=?_) #[true,true,false,false,true,true,false,false,true,true,false,false,true,true,false,false,false,false] rfl rfl (dC iD.out (by kernel_rfl)) (fun _ _ _ h=>h) (Or.inl ⟨by rfl,?_⟩) ?_ ?_
   rotate_left
   ·intro w'
    go_simp
    with_reducible rfl
   rotate_left
   ·simp only [Act.put,List.setIfInBounds_toArray,List.set_cons_zero,List.set_cons_succ,aZ,bf]
    rfl
   refine gB (i:=2) (N:=some 15) (v:=?_) (a':=?_) #[true,true,true,false,true,true,false,false,true,true,false,false,true,true,false,false,false,false] rfl rfl (gJ iD.out wX.out (by kernel_rfl)) (fun _ _ _ h=>h) (Or.inl ⟨by rfl,?_⟩) hHeld ?_ ?_
   rotate_left
   ·rintro w' ⟨s0,s1,s2,s3⟩
    go_simp
    with_reducible rfl
   rotate_left
   ·simp only [Act.put,List.setIfInBounds_toArray,List.set_cons_zero,List.set_cons_succ,aZ,bf]
    rfl
   refine gB (i:=6) (N:=some 19) (v:=?_) (a':=?_) #[true,true,true,false,true,true,true,false,true,true,false,false,true,true,false,false,false,false] rfl rfl (gJ iD.out wX.out (by kernel_rfl)) (fun _ _ _ h=>h) (Or.inl ⟨by rfl,?_⟩) hHeld ?_ ?_
   rotate_left
   ·rintro w' ⟨s0,s1,s2,s3⟩
    go_simp
    with_reducible rfl
   rotate_left
   ·simp only [Act.put,List.setIfInBounds_toArray,List.set_cons_zero,List.set_cons_succ,aZ,bf]
    rfl
   refine gB (i:=10) (N:=some 23) (v:=?_) (a':=?_) #[true,true,true,false,true,true,true,false,true,true,true,false,true,true,false,false,false,false] rfl rfl (gJ iD.out wX.out (by kernel_rfl)) (fun _ _ _ h=>h) (Or.inl ⟨by rfl,?_⟩) hHeld ?_ ?_
   rotate_left
   ·rintro w' ⟨s0,s1,s2,s3⟩
    go_simp
    with_reducible rfl
   rotate_left
   ·simp only [Act.put,List.setIfInBounds_toArray,List.set_cons_zero,List.set_cons_succ,aZ,bf]
    rfl
   refine gB (i:=14) (N:=some 27) (v:=?_) (a':=?_) #[true,true,true,false,true,true,true,false,true,true,true,false,true,true,true,false,false,false] rfl rfl (gJ iD.out wX.out (by kernel_rfl)) (fun _ _ _ h=>h) (Or.inl ⟨by rfl,?_⟩) hHeld ?_ ?_
   rotate_left
   ·rintro w' ⟨s0,s1,s2,s3⟩
    go_simp
    with_reducible rfl
   rotate_left
   ·simp only [Act.put,List.setIfInBounds_toArray,List.set_cons_zero,List.set_cons_succ,aZ,bf]
    rfl
   refine o7 (i:=3) (N:=some 16) #[true,true,true,true,true,true,true,false,true,true,true,false,true,true,true,false,false,false] rfl rfl (l9 iD.out (by kernel_rfl)) (by decide) (fun K hK=>?_)
   refine kP Try.func117 (by kernel_rfl) rfl #[.int .i64 aC] (by rfl) rfl rfl (by (try simp only [List.map_toArray,List.map_cons,List.map_nil]);first|done|rfl|(simp only [List.length_drop,List.length_take];rfl)) ?_
   with_reducible refine (ek.calls aC t149 _ A4.out).mono ?_
   rintro e w30 ⟨rfl,hb⟩
   refine ⟨_,rfl,?_⟩
   have bB:=aj.mk (Kd.gL (by (with_reducible repeat (first|apply Kd.eD|apply Kd.eF|apply Kd.fF));exact je.out) hb)
   have bC:=aj.mk (ax (g:=kr) (o:=.cells #[.int .i64 aC,.int .i64 aD,.int .i64 aG,.int .i64 aH] 31 (0,0)) (by (with_reducible repeat (first|refine ag ?_ _|refine ai ?_|refine af ?_ _));exact dZ.out) hb)
   have bK:=aj.mk (ay (by repeat (first|(with_reducible first|exact HB.out|apply au|apply ah|apply av|refine ak ?_ rD.out)|exact HB.out)) hb)
   clear je
   clear dZ
   clear HB
   have je:=bB
   have dZ:=bC
   have HB:=bK
   clear bB bC bK
   (try clear hb)
   (try clear hb2)
   (try clear hk)
   (try clear hi)
   refine hK.out _ _ ⟨(aa dZ.out 0).trans rfl,(aa dZ.out 1).trans rfl,(aa dZ.out 2).trans rfl,(aa dZ.out 3).trans rfl⟩ (fun hHeld=>?_)
   clear hK K
   refine iP (a':=?_) ?_ ?_
   rotate_left
   ·show Act.put _ (some 16) _ = _
    simp only [Act.put,List.setIfInBounds_toArray,List.set_cons_zero,List.set_cons_succ,aZ,bf]
    rfl
   refine o7 (i:=7) (N:=some 20) #[true,true,true,true,true,true,true,true,true,true,true,false,true,true,true,false,false,false] rfl rfl (l9 iD.out (by kernel_rfl)) (by decide) (fun K hK=>?_)
   refine kP Try.func117 (by kernel_rfl) rfl #[.int .i64 aD] (by rfl) rfl rfl (by (try simp only [List.map_toArray,List.map_cons,List.map_nil]);first|done|rfl|(simp only [List.length_drop,List.length_take];rfl)) ?_
   with_reducible refine (ek.calls aD t150 _ A5.out).mono ?_
   rintro e RZ ⟨rfl,hb⟩
   refine ⟨_,rfl,?_⟩
   have bB:=aj.mk (Kd.gL (by (with_reducible repeat (first|apply Kd.eD|apply Kd.eF|apply Kd.fF));exact je.out) hb)
   have bC:=aj.mk (ax (g:=kr) (o:=.cells #[.int .i64 aC,.int .i64 aD,.int .i64 aG,.int .i64 aH] 31 (0,0)) (by (with_reducible repeat (first|refine ag ?_ _|refine ai ?_|refine af ?_ _));exact dZ.out) hb)
   have bK:=aj.mk (ay (by repeat (first|(with_reducible first|exact HB.out|apply au|apply ah|apply av|refine ak ?_ rD.out)|exact HB.out)) hb)
   clear je
   clear dZ
   clear HB
   have je:=bB
   have dZ:=bC
   have HB:=bK
   clear bB bC bK
   (try clear hb)
   (try clear hb2)
   (try clear hk)
   (try clear hi)
   refine hK.out _ _ ⟨(aa dZ.out 0).trans rfl,(aa dZ.out 1).trans rfl,(aa dZ.out 2).trans rfl,(aa dZ.out 3).trans rfl⟩ (fun hHeld=>?_)
   clear hK K
   refine iP (a':=?_) ?_ ?_
   rotate_left
   ·show Act.put _ (some 20) _ = _
    simp only [Act.put,List.setIfInBounds_toArray,List.set_cons_zero,List.set_cons_succ,aZ,bf]
    rfl
   refine o7 (i:=11) (N:=some 24) #[true,true,true,true,true,true,true,true,true,true,true,true,true,true,true,false,false,false] rfl rfl (l9 iD.out (by kernel_rfl)) (by decide) (fun K hK=>?_)
   refine kP Try.func117 (by kernel_rfl) rfl #[.int .i64 aG] (by rfl) rfl rfl (by (try simp only [List.map_toArray,List.map_cons,List.map_nil]);first|done|rfl|(simp only [List.length_drop,List.length_take];rfl)) ?_
   with_reducible refine (ek.calls aG t151 _ A6.out).mono ?_
   rintro e w32 ⟨rfl,hb⟩
   refine ⟨_,rfl,?_⟩
   have bB:=aj.mk (Kd.gL (by (with_reducible repeat (first|apply Kd.eD|apply Kd.eF|apply Kd.fF));exact je.out) hb)
   have bC:=aj.mk (ax (g:=kr) (o:=.cells #[.int .i64 aC,.int .i64 aD,.int .i64 aG,.int .i64 aH] 31 (0,0)) (by (with_reducible repeat (first|refine ag ?_ _|refine ai ?_|refine af ?_ _));exact dZ.out) hb)
   have bK:=aj.mk (ay (by repeat (first|(with_reducible first|exact HB.out|apply au|apply ah|apply av|refine ak ?_ rD.out)|exact HB.out)) hb)
   clear je
   clear dZ
   clear HB
   have je:=bB
   have dZ:=bC
   have HB:=bK
   clear bB bC bK
   (try clear hb)
   (try clear hb2)
   (try clear hk)
   (try clear hi)
   refine hK.out _ _ ⟨(aa dZ.out 0).trans rfl,(aa dZ.out 1).trans rfl,(aa dZ.out 2).trans rfl,(aa dZ.out 3).trans rfl⟩ (fun hHeld=>?_)
   clear hK K
   refine iP (a':=?_) ?_ ?_
   rotate_left
   ·show Act.put _ (some 24) _ = _
    simp only [Act.put,List.setIfInBounds_toArray,List.set_cons_zero,List.set_cons_succ,aZ,bf]
    rfl
   refine o7 (i:=15) (N:=some 28) #[true,true,true,true,true,true,true,true,true,true,true,true,true,true,true,true,false,false] rfl rfl (l9 iD.out (by kernel_rfl)) (by decide) (fun K hK=>?_)
   refine kP Try.func117 (by kernel_rfl) rfl #[.int .i64 aH] (by rfl) rfl rfl (by (try simp only [List.map_toArray,List.map_cons,List.map_nil]);first|done|rfl|(simp only [List.length_drop,List.length_take];rfl)) ?_
   with_reducible refine (ek.calls aH t152 _ A7.out).mono ?_
   rintro e w33 ⟨rfl,hb⟩
   refine ⟨_,rfl,?_⟩
   have bB:=aj.mk (Kd.gL (by (with_reducible repeat (first|apply Kd.eD|apply Kd.eF|apply Kd.fF));exact je.out) hb)
   have bC:=aj.mk (ax (g:=kr) (o:=.cells #[.int .i64 aC,.int .i64 aD,.int .i64 aG,.int .i64 aH] 31 (0,0)) (by (with_reducible repeat (first|refine ag ?_ _|refine ai ?_|refine af ?_ _));exact dZ.out) hb)
   have bK:=aj.mk (ay (by repeat (first|(with_reducible first|exact HB.out|apply au|apply ah|apply av|refine ak ?_ rD.out)|exact HB.out)) hb)
   clear je
   clear dZ
   clear HB
   have je:=bB
   have dZ:=bC
   have HB:=bK
   clear bB bC bK
   (try clear hb)
   (try clear hb2)
   (try clear hk)
   (try clear hi)
   refine hK.out _ _ ⟨(aa dZ.out 0).trans rfl,(aa dZ.out 1).trans rfl,(aa dZ.out 2).trans rfl,(aa dZ.out 3).trans rfl⟩ (fun hHeld=>?_)
   clear hK K
   refine iP (a':=?_) ?_ ?_
   rotate_left
   ·show Act.put _ (some 28) _ = _
    simp only [Act.put,List.setIfInBounds_toArray,List.set_cons_zero,List.set_cons_succ,aZ,bf]
    rfl
   refine bU (i:=16) (N:=some 29) (v:=?_) (a':=?_) #[true,true,true,true,true,true,true,true,true,true,true,true,true,true,true,true,true,false] rfl rfl (dC iD.out (by kernel_rfl)) (fun _ _ _ h=>h) (Or.inl ⟨by rfl,?_⟩) ?_ ?_
   rotate_left
   ·intro w'
    go_simp
    with_reducible rfl
   rotate_left
   ·simp only [Act.put,List.setIfInBounds_toArray,List.set_cons_zero,List.set_cons_succ,aZ,bf]
    rfl
   refine bU (i:=17) (N:=some 30) (v:=?_) (a':=?_) #[true,true,true,true,true,true,true,true,true,true,true,true,true,true,true,true,true,true] rfl rfl (dC iD.out (by kernel_rfl)) (fun _ _ _ h=>h) (Or.inl ⟨by rfl,?_⟩) ?_ ?_
   rotate_left
   ·intro w'
    go_simp
    with_reducible rfl
   rotate_left
   ·simp only [Act.put,List.setIfInBounds_toArray,List.set_cons_zero,List.set_cons_succ,aZ,bf]
    rfl
   refine tT (yh iD.out (by kernel_rfl)) ?_
   try go_wp2
   go_ret
   exact ⟨by first|rfl|(simp [aQ,aT] <;> rfl)|(simp only [← MJ,← MK,← DN];first|rfl|(simp [aQ,aT] <;> rfl))|(simp [*,aQ,aT] <;> rfl),by repeat (first|(with_reducible first|exact HB.out|apply au|apply ah|apply av|refine ak ?_ rD.out)|exact HB.out)⟩
 ·rw [if_neg c3] at H
  have Jh:(t148 == 0) = false:=beq_eq_false_iff_ne.mpr c3
  have ZC:(t148 != 0) = true:=bne_iff_ne.mpr c3
  obtain rfl:=Option.some.inj H
  go_enter Try.func67,Try.ntmps67
  go_wp2_with (first|((with_reducible refine bu (N:=1) rfl ?_);refine aY ?hg (N:=1) ?hd (cs:=#[.int .i64 aC,.int .i64 aD,.int .i64 aG,.int .i64 aH]) (t:=31) ?hr ?_;(case hd=>rfl);(case hg=>rfl);(case hr=>first|(go_simp;done)|(go_simp;rfl));intro kr hg zL hbox hb;have bB:=aj.mk (ay (by repeat (first|(with_reducible first|exact HB.out|apply au|apply ah|apply av)|exact HB.out)) hb);have bC:=aj.mk (hbox);have bK:=aj.mk ((by rw [hg];exact (aA (by repeat (first|(with_reducible first|exact HB.out|apply au|apply ah|apply av)|exact HB.out))):w.heap.size≤kr));have bP:=aj.mk ((by rw [hg];exact (aA (by repeat (first|(with_reducible first|exact HB.out|apply au|apply ah|apply av)|exact HB.out))):w.heap.size≤kr));clear HB;have HB:=bB;have dZ:=bC;have agI:=bK;have rD:=bP;clear bB bC bK bP;clear hb hbox hg;have Dk:zL.cell? ⟨kr,0,none⟩ = some (.int .i64 aC):=(aa dZ.out 0).trans rfl;have Dl:zL.cell? ⟨kr,1,none⟩ = some (.int .i64 aD):=(aa dZ.out 1).trans rfl;have Gu:zL.cell? ⟨kr,2,none⟩ = some (.int .i64 aG):=(aa dZ.out 2).trans rfl;have Gv:zL.cell? ⟨kr,3,none⟩ = some (.int .i64 aH):=(aa dZ.out 3).trans rfl;have Dm:=ae dZ.out 0;have Dn:=ae dZ.out 1;have Gw:=ae dZ.out 2;have Gx:=ae dZ.out 3)|((with_reducible refine bu (N:=8) rfl ?_);refine Kd.MQ k27 _ 27 ?hg (N:=8) ?hd (xs:=([(⟨aC,aD⟩:mZ),(⟨aG,aH⟩:mZ)]:List (mZ))) (inner:=[.int .i64 aC,.int .i64 aD,.int .i64 aG,.int .i64 aH]) (ok:=fun _=>True) (okp:=fun _=>True) ?hr ?hp (fun _ hk=>hk) trivial (Below.refl _ _) (Nat.le_refl _) (by simp) ?_;(case hd=>rfl);(case hg=>rfl);(case hr=>first|(go_simp;done)|(go_simp;rfl));(case hp=>exact (oU.c2 (show Kd.M k27 _ _ _ (⟨aC,aD⟩:mZ) [.int .i64 aC,.int .i64 aD] from (wC _ _ _ (⟨aC,aD⟩:mZ))) (oU.c2 (show Kd.M k27 _ _ _ (⟨aG,aH⟩:mZ) [.int .i64 aG,.int .i64 aH] from (wC _ _ _ (⟨aG,aH⟩:mZ))) (oU.none _ _))));intro v146 w36 aa2 hb Zj Bg;clear Zj Bg;(first|rw [← Nw.out] at aa2|(simp only [Int.reduceToNat] at aa2;rw [← Nw.out] at aa2));have bB:=aj.mk (Kd.vY aa2 (aA (by repeat (first|(with_reducible first|exact HB.out|apply au|apply ah|apply av|refine ak ?_ rD.out)|exact HB.out))));have bC:=aj.mk (ax (g:=kr) (o:=.cells #[.int .i64 aC,.int .i64 aD,.int .i64 aG,.int .i64 aH] 31 (0,0)) (by (with_reducible repeat (first|refine ag ?_ _|refine ai ?_|refine af ?_ _));exact dZ.out) hb);have bK:=aj.mk (ay (by repeat (first|(with_reducible first|exact HB.out|apply au|apply ah|apply av|refine ak ?_ rD.out)|exact HB.out)) hb);clear dZ;clear HB;have je:=bB;have dZ:=bC;have HB:=bK;clear bB bC bK;clear hb aa2;obtain ⟨aB2,aB3,aB4⟩:=Kd.pR je.out;subst aB4)|((with_reducible refine bT (f:=116) rfl ?_);refine fM (some 9) rfl rfl Try.func116 (by kernel_rfl) rfl #[.slice aB2 TW.length aB3] rfl (by (try simp only [List.map_toArray,List.map_cons,List.map_nil]);first|done|rfl|(simp only [List.length_drop,List.length_take];rfl)) ?_;(with_reducible refine (eB.calls k _ _ TW t148 _ ?gm ?gp A2.out).mono ?_);(case gm=>repeat (first|exact (Kd.iF je.out).2.2|(with_reducible refine Kd.dO ?_ _)|(with_reducible refine Kd.dP ?_ _)|(with_reducible refine Kd.eO ?_)));(case gp=>exact (Kd.iF je.out).2.1);rintro e w39 ⟨rfl,hb⟩;refine ⟨_,rfl,?_⟩;have bB:=aj.mk (Kd.gL (by (with_reducible repeat (first|apply Kd.eD|apply Kd.eF|apply Kd.fF));exact je.out) hb);have bC:=aj.mk (ax (g:=kr) (o:=.cells #[.int .i64 aC,.int .i64 aD,.int .i64 aG,.int .i64 aH] 31 (0,0)) (by (with_reducible repeat (first|refine ag ?_ _|refine ai ?_|refine af ?_ _));exact dZ.out) hb);have bK:=aj.mk (ay (by repeat (first|(with_reducible first|exact HB.out|apply au|apply ah|apply av|refine ak ?_ rD.out)|exact HB.out)) hb);clear je;clear dZ;clear HB;have je:=bB;have dZ:=bC;have HB:=bK;clear bB bC bK;(try clear hb);(try clear hb2);(try clear hk);(try clear hi)))
  go_ret
  exact ⟨by first|rfl|(simp [aQ,aT] <;> rfl)|(simp [*,aQ,aT] <;> rfl),by repeat (first|(with_reducible first|exact HB.out|apply au|apply ah|apply av|refine ak ?_ rD.out)|exact HB.out)⟩
end Go.Proofs.Ytmhaiihjfgfaoaa.Pr
end
section
namespace Go.Proofs.Ytmhaiihjfgfaoaa.Pr
open Go.RowKit Go.Proofs.YtmhaiihjfgfaoaaW.PrintWords Go.Proofs.YtmhaiihjfgfaoaaW.PrintLast Go.Proofs.YtmhaiihjfgfaoaaW.PrintMore
attribute [local go_sem] fo fq gu gz fu
set_option linter.unusedVariables false
set_option linter.unusedSimpArgs false
def ow.f (k:Nat) (aC:Int) (aD:Int) (aG:Int) (aH:Int) (a1:Int):Option (Int):=(fZ.f k aC aD aG aH).bind fun t154=>(if t154 = 0 then ((dn.f a1 0 1073741824).bind fun t155=>(if t155 = true then (some 0) else (some 3))) else (some t154))
set_option maxHeartbeats 8000000 in
set_option maxRecDepth 100000 in
theorem ow.calls (k:Nat) (aC:Int) (aD:Int) (aG:Int) (aH:Int) (a1:Int) (r:Int) (w:World) (h:ow.f k aC aD aG aH a1 = some r):
 Calls Try.prog 114 #[.agg #[.int .i64 aC,.int .i64 aD,.int .i64 aG,.int .i64 aH],.int .i64 a1] w fun e w'=>e = .returned (.int .i64 r)∧Below w.heap.size w w':=by
 have vT:=Try.underlying31
 have HB:=aj.mk (Below.refl w.heap.size w)
 have H:((fZ.f k aC aD aG aH).bind fun t154=>(if t154 = 0 then ((dn.f a1 0 1073741824).bind fun t155=>(if t155 = true then (some 0) else (some 3))) else (some t154))) = some r:=h
 clear h
 replace H:=Option.bind_eq_some_iff.mp H
 obtain ⟨t154,ZA,H⟩:=H
 replace H:(if t154 = 0 then ((dn.f a1 0 1073741824).bind fun t155=>(if t155 = true then (some 0) else (some 3))) else (some t154)) = some r:=H
 have A3:=aj.mk ZA
 clear ZA
 by_cases c4:t154 = 0
 ·rw [if_pos c4] at H
  have wV:(t154 == 0) = true:=beq_iff_eq.mpr c4
  have aB5:(t154 != 0) = false:=bne_eq_false_iff_eq.mpr c4
  clear c4
  replace H:=Option.bind_eq_some_iff.mp H
  obtain ⟨t155,Vs,H⟩:=H
  replace H:(if t155 = true then (some 0) else (some 3)) = some r:=H
  have A5:=aj.mk Vs
  clear Vs
  by_cases c6:t155 = true
  ·subst c6
   have H1:(some 0) = some r:=by rw [if_pos rfl] at H;exact H
   clear H
   have H:=H1
   clear H1
   obtain rfl:=Option.some.inj H
   go_enter Try.func114,Try.ntmps114
   go_wp2_with (first|((with_reducible refine bu (N:=2) rfl ?_);refine aY ?hg (N:=2) ?hd (cs:=#[.int .i64 aC,.int .i64 aD,.int .i64 aG,.int .i64 aH]) (t:=31) ?hr ?_;(case hd=>rfl);(case hg=>rfl);(case hr=>first|(go_simp;done)|(go_simp;rfl));intro qN hg w7 hbox hb;have bB:=aj.mk (ay (by repeat (first|(with_reducible first|exact HB.out|apply au|apply ah|apply av)|exact HB.out)) hb);have bC:=aj.mk (hbox);have bK:=aj.mk ((by rw [hg];exact (aA (by repeat (first|(with_reducible first|exact HB.out|apply au|apply ah|apply av)|exact HB.out))):w.heap.size≤qN));have bP:=aj.mk ((by rw [hg];exact (aA (by repeat (first|(with_reducible first|exact HB.out|apply au|apply ah|apply av)|exact HB.out))):w.heap.size≤qN));clear HB;have HB:=bB;have mf:=bC;have agJ:=bK;have Jg:=bP;clear bB bC bK bP;clear hb hbox hg;have Hr:w7.cell? ⟨qN,0,none⟩ = some (.int .i64 aC):=(aa mf.out 0).trans rfl;have Ht:w7.cell? ⟨qN,1,none⟩ = some (.int .i64 aD):=(aa mf.out 1).trans rfl;have Sa:w7.cell? ⟨qN,2,none⟩ = some (.int .i64 aG):=(aa mf.out 2).trans rfl;have Sb:w7.cell? ⟨qN,3,none⟩ = some (.int .i64 aH):=(aa mf.out 3).trans rfl;have Hu:=ae mf.out 0;have Hw:=ae mf.out 1;have Sc:=ae mf.out 2;have Sd:=ae mf.out 3)|((with_reducible refine bT (f:=67) rfl ?_);refine fM (some 7) rfl rfl Try.func67 (by kernel_rfl) rfl #[.agg #[.int .i64 aC,.int .i64 aD,.int .i64 aG,.int .i64 aH]] rfl (by (try simp only [List.map_toArray,List.map_cons,List.map_nil]);first|done|rfl|(simp only [List.length_drop,List.length_take];rfl)) ?_;(with_reducible refine (fZ.calls k aC aD aG aH t154 _ A3.out).mono ?_);rintro e w9 ⟨rfl,hb⟩;refine ⟨_,rfl,?_⟩;have bB:=aj.mk (ax (g:=qN) (o:=.cells #[.int .i64 aC,.int .i64 aD,.int .i64 aG,.int .i64 aH] 31 (0,0)) (by (with_reducible repeat (first|refine ag ?_ _|refine ai ?_|refine af ?_ _));exact mf.out) hb);have bC:=aj.mk (ay (by repeat (first|(with_reducible first|exact HB.out|apply au|apply ah|apply av|refine ak ?_ Jg.out)|exact HB.out)) hb);clear mf;clear HB;have mf:=bB;have HB:=bC;clear bB bC;(try clear hb);(try clear hb2);(try clear hk);(try clear hi))|((with_reducible refine bT (f:=74) rfl ?_);refine fM (some 12) rfl rfl Try.func74 (by kernel_rfl) rfl #[.int .i64 a1,.int .i64 0,.int .i64 1073741824] rfl (by (try simp only [List.map_toArray,List.map_cons,List.map_nil]);first|done|rfl|(simp only [List.length_drop,List.length_take];rfl)) ?_;(with_reducible refine (dn.calls a1 0 1073741824 true _ A5.out).mono ?_);rintro e w' ⟨rfl,⟨nd,rfl⟩⟩;refine ⟨_,rfl,?_⟩))
   go_ret
   exact ⟨by first|rfl|(simp [aQ,aT] <;> rfl)|(simp [*,aQ,aT] <;> rfl),by repeat (first|(with_reducible first|exact HB.out|apply au|apply ah|apply av|refine ak ?_ Jg.out)|exact HB.out)⟩
  ·replace c6:=Bool.eq_false_iff.mpr c6
   subst c6
   have H1:(some 3) = some r:=by rw [if_neg (show ¬ (false = true) by decide)] at H;exact H
   clear H
   have H:=H1
   clear H1
   obtain rfl:=Option.some.inj H
   go_enter Try.func114,Try.ntmps114
   go_wp2_with (first|((with_reducible refine bu (N:=2) rfl ?_);refine aY ?hg (N:=2) ?hd (cs:=#[.int .i64 aC,.int .i64 aD,.int .i64 aG,.int .i64 aH]) (t:=31) ?hr ?_;(case hd=>rfl);(case hg=>rfl);(case hr=>first|(go_simp;done)|(go_simp;rfl));intro qN hg Mi hbox hb;have bB:=aj.mk (ay (by repeat (first|(with_reducible first|exact HB.out|apply au|apply ah|apply av)|exact HB.out)) hb);have bC:=aj.mk (hbox);have bK:=aj.mk ((by rw [hg];exact (aA (by repeat (first|(with_reducible first|exact HB.out|apply au|apply ah|apply av)|exact HB.out))):w.heap.size≤qN));have bP:=aj.mk ((by rw [hg];exact (aA (by repeat (first|(with_reducible first|exact HB.out|apply au|apply ah|apply av)|exact HB.out))):w.heap.size≤qN));clear HB;have HB:=bB;have mf:=bC;have agJ:=bK;have Jg:=bP;clear bB bC bK bP;clear hb hbox hg;have CP:Mi.cell? ⟨qN,0,none⟩ = some (.int .i64 aC):=(aa mf.out 0).trans rfl;have CQ:Mi.cell? ⟨qN,1,none⟩ = some (.int .i64 aD):=(aa mf.out 1).trans rfl;have FB:Mi.cell? ⟨qN,2,none⟩ = some (.int .i64 aG):=(aa mf.out 2).trans rfl;have FC:Mi.cell? ⟨qN,3,none⟩ = some (.int .i64 aH):=(aa mf.out 3).trans rfl;have CR:=ae mf.out 0;have CS:=ae mf.out 1;have FD:=ae mf.out 2;have FE:=ae mf.out 3)|((with_reducible refine bT (f:=67) rfl ?_);refine fM (some 7) rfl rfl Try.func67 (by kernel_rfl) rfl #[.agg #[.int .i64 aC,.int .i64 aD,.int .i64 aG,.int .i64 aH]] rfl (by (try simp only [List.map_toArray,List.map_cons,List.map_nil]);first|done|rfl|(simp only [List.length_drop,List.length_take];rfl)) ?_;(with_reducible refine (fZ.calls k aC aD aG aH t154 _ A3.out).mono ?_);rintro e qB ⟨rfl,hb⟩;refine ⟨_,rfl,?_⟩;have bB:=aj.mk (ax (g:=qN) (o:=.cells #[.int .i64 aC,.int .i64 aD,.int .i64 aG,.int .i64 aH] 31 (0,0)) (by (with_reducible repeat (first|refine ag ?_ _|refine ai ?_|refine af ?_ _));exact mf.out) hb);have bC:=aj.mk (ay (by repeat (first|(with_reducible first|exact HB.out|apply au|apply ah|apply av|refine ak ?_ Jg.out)|exact HB.out)) hb);clear mf;clear HB;have mf:=bB;have HB:=bC;clear bB bC;(try clear hb);(try clear hb2);(try clear hk);(try clear hi))|((with_reducible refine bT (f:=74) rfl ?_);refine fM (some 12) rfl rfl Try.func74 (by kernel_rfl) rfl #[.int .i64 a1,.int .i64 0,.int .i64 1073741824] rfl (by (try simp only [List.map_toArray,List.map_cons,List.map_nil]);first|done|rfl|(simp only [List.length_drop,List.length_take];rfl)) ?_;(with_reducible refine (dn.calls a1 0 1073741824 false _ A5.out).mono ?_);rintro e w' ⟨rfl,⟨nd,rfl⟩⟩;refine ⟨_,rfl,?_⟩))
   go_ret
   exact ⟨by first|rfl|(simp [aQ,aT] <;> rfl)|(simp [*,aQ,aT] <;> rfl),by repeat (first|(with_reducible first|exact HB.out|apply au|apply ah|apply av|refine ak ?_ Jg.out)|exact HB.out)⟩
 ·rw [if_neg c4] at H
  have wV:(t154 == 0) = false:=beq_eq_false_iff_ne.mpr c4
  have aB5:(t154 != 0) = true:=bne_iff_ne.mpr c4
  obtain rfl:=Option.some.inj H
  go_enter Try.func114,Try.ntmps114
  go_wp2_with (first|((with_reducible refine bu (N:=2) rfl ?_);refine aY ?hg (N:=2) ?hd (cs:=#[.int .i64 aC,.int .i64 aD,.int .i64 aG,.int .i64 aH]) (t:=31) ?hr ?_;(case hd=>rfl);(case hg=>rfl);(case hr=>first|(go_simp;done)|(go_simp;rfl));intro qN hg D9 hbox hb;have bB:=aj.mk (ay (by repeat (first|(with_reducible first|exact HB.out|apply au|apply ah|apply av)|exact HB.out)) hb);have bC:=aj.mk (hbox);have bK:=aj.mk ((by rw [hg];exact (aA (by repeat (first|(with_reducible first|exact HB.out|apply au|apply ah|apply av)|exact HB.out))):w.heap.size≤qN));have bP:=aj.mk ((by rw [hg];exact (aA (by repeat (first|(with_reducible first|exact HB.out|apply au|apply ah|apply av)|exact HB.out))):w.heap.size≤qN));clear HB;have HB:=bB;have mf:=bC;have agJ:=bK;have Jg:=bP;clear bB bC bK bP;clear hb hbox hg;have xw:D9.cell? ⟨qN,0,none⟩ = some (.int .i64 aC):=(aa mf.out 0).trans rfl;have xx:D9.cell? ⟨qN,1,none⟩ = some (.int .i64 aD):=(aa mf.out 1).trans rfl;have EB:D9.cell? ⟨qN,2,none⟩ = some (.int .i64 aG):=(aa mf.out 2).trans rfl;have EC:D9.cell? ⟨qN,3,none⟩ = some (.int .i64 aH):=(aa mf.out 3).trans rfl;have xy:=ae mf.out 0;have xz:=ae mf.out 1;have ED:=ae mf.out 2;have EE:=ae mf.out 3)|((with_reducible refine bT (f:=67) rfl ?_);refine fM (some 7) rfl rfl Try.func67 (by kernel_rfl) rfl #[.agg #[.int .i64 aC,.int .i64 aD,.int .i64 aG,.int .i64 aH]] rfl (by (try simp only [List.map_toArray,List.map_cons,List.map_nil]);first|done|rfl|(simp only [List.length_drop,List.length_take];rfl)) ?_;(with_reducible refine (fZ.calls k aC aD aG aH t154 _ A3.out).mono ?_);rintro e Ji ⟨rfl,hb⟩;refine ⟨_,rfl,?_⟩;have bB:=aj.mk (ax (g:=qN) (o:=.cells #[.int .i64 aC,.int .i64 aD,.int .i64 aG,.int .i64 aH] 31 (0,0)) (by (with_reducible repeat (first|refine ag ?_ _|refine ai ?_|refine af ?_ _));exact mf.out) hb);have bC:=aj.mk (ay (by repeat (first|(with_reducible first|exact HB.out|apply au|apply ah|apply av|refine ak ?_ Jg.out)|exact HB.out)) hb);clear mf;clear HB;have mf:=bB;have HB:=bC;clear bB bC;(try clear hb);(try clear hb2);(try clear hk);(try clear hi)))
  go_ret
  exact ⟨by first|rfl|(simp [aQ,aT] <;> rfl)|(simp [*,aQ,aT] <;> rfl),by repeat (first|(with_reducible first|exact HB.out|apply au|apply ah|apply av|refine ak ?_ Jg.out)|exact HB.out)⟩
end Go.Proofs.Ytmhaiihjfgfaoaa.Pr
end
section
namespace Go.Proofs.Ytmhaiihjfgfaoaa.Pr
open Go.RowKit Go.Proofs.YtmhaiihjfgfaoaaW.PrintWords Go.Proofs.YtmhaiihjfgfaoaaW.PrintLast Go.Proofs.YtmhaiihjfgfaoaaW.PrintMore
attribute [local go_sem] fo fq gu gz fu
set_option linter.unusedVariables false
set_option linter.unusedSimpArgs false
def fH.l0:Nat→Int→List (M0)→Int→Int→Option (Int)
 |0,_,_,_,_=>none
 |k+1,x1,x10,x11,OX=>if OX < x11 then (if 0≤OX then (if OX < (x10.length:Int) then (if ((pg x10 OX).f0) < 0 then (some 2) else (if ((pg x10 OX).f0) ≥ 9 then (some 2) else (if ((pg x10 OX).f1) < 0 then (some 2) else (if x1 ≥ 0 then (if ((pg x10 OX).f1) ≥ x1 then (some 2) else (fH.l0 k x1 x10 x11 (wrap64 (OX+1)))) else (fH.l0 k x1 x10 x11 (wrap64 (OX+1))))))) else (none)) else (none)) else (some 0)
def fH.f (k:Nat) (l0:List (M0)) (a1:Int):Option (Int):=if (l0.length:Int) > 64 then (some 6) else (fH.l0 k a1 l0 (l0.length:Int) 0)
set_option maxHeartbeats 8000000 in
set_option maxRecDepth 100000 in
theorem fH.calls (k:Nat) (A0:Option Addr) (c0:Nat) (l0:List (M0)) (a1:Int) (r:Int) (w:World) (hr0:Kd.C k33 w A0 l0.length l0) (hc0:l0.length≤c0) (h:fH.f k l0 a1 = some r):
 Calls Try.prog 65 #[.slice A0 l0.length c0,.int .i64 a1] w fun e w'=>e = .returned (.int .i64 r)∧Below w.heap.size w w':=by
 have Ze:=Try.underlying33
 have HR0:=aj.mk hr0
 have HC0:=aj.mk hc0
 clear hr0 hc0
 have HB:=aj.mk (Below.refl w.heap.size w)
 have H:(if (l0.length:Int) > 64 then (some 6) else (fH.l0 k a1 l0 (l0.length:Int) 0)) = some r:=h
 clear h
 by_cases c3:(l0.length:Int) > 64
 ·rw [if_pos c3] at H
  have Jh:decide (64 < (l0.length:Int)) = true:=decide_eq_true c3
  have ZC:decide (64 < l0.length) = true:=decide_eq_true (by omega)
  clear c3
  obtain rfl:=Option.some.inj H
  go_enter Try.func65,Try.ntmps65
  go_wp2
  go_ret
  exact ⟨by first|rfl|(simp [aQ,aT] <;> rfl)|(simp [*,aQ,aT] <;> rfl),by repeat (first|(with_reducible first|exact HB.out|apply au|apply ah|apply av)|exact HB.out)⟩
 ·rw [if_neg c3] at H
  have Jh:decide (64 < (l0.length:Int)) = false:=decide_eq_false c3
  have ZC:decide (64 < l0.length) = false:=decide_eq_false (by omega)
  clear c3
  have H':=aj.mk H
  clear H
  go_enter Try.func65,Try.ntmps65
  go_wp2
  go_loopg [12] k (fun kq v12 w'=>∃ (ji:Int),v12 = .int .i64 ji∧aj (fH.l0 kq a1 l0 (l0.length:Int) ji = some r)∧aj (kq≤k)∧aj (Below w.heap.size w w'))
  case atStart=>exact ⟨(0),(by first|rfl|(simp;done)|(simp [*];done)),H',⟨Nat.le_refl _⟩,⟨by repeat (first|(with_reducible first|exact HB.out|apply au|apply ah|apply av)|exact HB.out)⟩⟩
  case round =>
   clear H'
   try clear p2
   try clear c3
   try clear Jh
   try clear ZC
   obtain ⟨ji,rfl,HA,GV,HB⟩:=hrel
   cases gk with
   |zero=>exact absurd HA.out (by simp [fH.l0])
   |succ k1 =>
    have H:=HA.out
    clear HA
    simp only [fH.l0] at H
    by_cases c4:ji < (l0.length:Int)
    ·rw [if_pos c4] at H
     have wV:decide (ji < (l0.length:Int)) = true:=decide_eq_true c4
     clear c4
     by_cases c5:0≤ji
     ·rw [if_pos c5] at H
      have Ew:decide (0≤ji) = true:=decide_eq_true c5
      clear c5
      by_cases c6:ji < (l0.length:Int)
      ·rw [if_pos c6] at H
       have Lu:decide (ji < (l0.length:Int)) = true:=decide_eq_true c6
       clear c6
       by_cases c7:((pg l0 ji).f0) < 0
       ·rw [if_pos c7] at H
        have ZL:decide (((pg l0 ji).f0) < 0) = true:=decide_eq_true c7
        clear c7
        obtain rfl:=Option.some.inj H
        have xk:0≤(ji:Int):=of_decide_eq_true (by first|(with_reducible assumption)|assumption)
        have xm:ji < (l0.length:Int):=of_decide_eq_true (by first|(with_reducible assumption)|assumption)
        obtain ⟨RB,LZ,kQ,kT⟩:=IA HR0.out ji xk xm
        cases LZ
        replace kQ:=(HB.out.cell (World.block_lt_of_cell? w _ kQ)).trans kQ
        replace kT:=(HB.out.cell (World.block_lt_of_cell? w _ kT)).trans kT
        replace xk:=eq_true xk
        replace xm:=eq_true xm
        go_wp2_with (first|((with_reducible refine bu (N:=6) rfl ?_);refine aY ?hg (N:=6) ?hd (cs:=#[.int .i64 0,.int .i64 0]) (t:=33) ?hr ?_;(case hd=>rfl);(case hg=>rfl);(case hr=>first|(go_simp;done)|(go_simp;rfl));intro oz hg w8 hbox hb;have bB:=aj.mk (ay (by repeat (first|(with_reducible first|exact HB.out|apply au|apply ah|apply av)|exact HB.out)) hb);have bC:=aj.mk (hbox);have bK:=aj.mk ((by rw [hg];exact (aA (by repeat (first|(with_reducible first|exact HB.out|apply au|apply ah|apply av)|exact HB.out))):w.heap.size≤oz));have bP:=aj.mk ((by rw [hg];exact (aA (by repeat (first|(with_reducible first|exact HB.out|apply au|apply ah|apply av)|exact HB.out))):w.heap.size≤oz));clear HB;have HB:=bB;have oC:=bC;have RD:=bK;have Bt:=bP;clear bB bC bK bP;clear hb hbox hg;have AX:w8.cell? ⟨oz,0,none⟩ = some (.int .i64 0):=(aa oC.out 0).trans rfl;have AY:w8.cell? ⟨oz,1,none⟩ = some (.int .i64 0):=(aa oC.out 1).trans rfl;have AZ:=ae oC.out 0;have Ba:=ae oC.out 1))
        go_ret
        exact ⟨by first|rfl|(simp [aQ,aT] <;> rfl)|(simp [*,aQ,aT] <;> rfl),by repeat (first|(with_reducible first|exact HB.out|apply au|apply ah|apply av|refine ak ?_ Bt.out)|exact HB.out)⟩
       ·rw [if_neg c7] at H
        have ZL:decide (((pg l0 ji).f0) < 0) = false:=decide_eq_false c7
        clear c7
        by_cases c10:((pg l0 ji).f0) ≥ 9
        ·rw [if_pos c10] at H
         have Dz:decide (9≤((pg l0 ji).f0)) = true:=decide_eq_true c10
         clear c10
         obtain rfl:=Option.some.inj H
         have xk:0≤(ji:Int):=of_decide_eq_true (by first|(with_reducible assumption)|assumption)
         have xm:ji < (l0.length:Int):=of_decide_eq_true (by first|(with_reducible assumption)|assumption)
         obtain ⟨RB,LZ,kQ,kT⟩:=IA HR0.out ji xk xm
         cases LZ
         replace kQ:=(HB.out.cell (World.block_lt_of_cell? w _ kQ)).trans kQ
         replace kT:=(HB.out.cell (World.block_lt_of_cell? w _ kT)).trans kT
         replace xk:=eq_true xk
         replace xm:=eq_true xm
         go_wp2_with (first|((with_reducible refine bu (N:=6) rfl ?_);refine aY ?hg (N:=6) ?hd (cs:=#[.int .i64 0,.int .i64 0]) (t:=33) ?hr ?_;(case hd=>rfl);(case hg=>rfl);(case hr=>first|(go_simp;done)|(go_simp;rfl));intro oz hg Md hbox hb;have bB:=aj.mk (ay (by repeat (first|(with_reducible first|exact HB.out|apply au|apply ah|apply av)|exact HB.out)) hb);have bC:=aj.mk (hbox);have bK:=aj.mk ((by rw [hg];exact (aA (by repeat (first|(with_reducible first|exact HB.out|apply au|apply ah|apply av)|exact HB.out))):w.heap.size≤oz));have bP:=aj.mk ((by rw [hg];exact (aA (by repeat (first|(with_reducible first|exact HB.out|apply au|apply ah|apply av)|exact HB.out))):w.heap.size≤oz));clear HB;have HB:=bB;have oC:=bC;have RD:=bK;have Bt:=bP;clear bB bC bK bP;clear hb hbox hg;have xY:Md.cell? ⟨oz,0,none⟩ = some (.int .i64 0):=(aa oC.out 0).trans rfl;have xZ:Md.cell? ⟨oz,1,none⟩ = some (.int .i64 0):=(aa oC.out 1).trans rfl;have x8:=ae oC.out 0;have x9:=ae oC.out 1))
         go_ret
         exact ⟨by first|rfl|(simp [aQ,aT] <;> rfl)|(simp [*,aQ,aT] <;> rfl),by repeat (first|(with_reducible first|exact HB.out|apply au|apply ah|apply av|refine ak ?_ Bt.out)|exact HB.out)⟩
        ·rw [if_neg c10] at H
         have Dz:decide (9≤((pg l0 ji).f0)) = false:=decide_eq_false c10
         clear c10
         by_cases c13:((pg l0 ji).f1) < 0
         ·rw [if_pos c13] at H
          have apB:decide (((pg l0 ji).f1) < 0) = true:=decide_eq_true c13
          clear c13
          obtain rfl:=Option.some.inj H
          have xk:0≤(ji:Int):=of_decide_eq_true (by first|(with_reducible assumption)|assumption)
          have xm:ji < (l0.length:Int):=of_decide_eq_true (by first|(with_reducible assumption)|assumption)
          obtain ⟨RB,LZ,kQ,kT⟩:=IA HR0.out ji xk xm
          cases LZ
          replace kQ:=(HB.out.cell (World.block_lt_of_cell? w _ kQ)).trans kQ
          replace kT:=(HB.out.cell (World.block_lt_of_cell? w _ kT)).trans kT
          replace xk:=eq_true xk
          replace xm:=eq_true xm
          go_wp2_with (first|((with_reducible refine bu (N:=6) rfl ?_);refine aY ?hg (N:=6) ?hd (cs:=#[.int .i64 0,.int .i64 0]) (t:=33) ?hr ?_;(case hd=>rfl);(case hg=>rfl);(case hr=>first|(go_simp;done)|(go_simp;rfl));intro oz hg R9 hbox hb;have bB:=aj.mk (ay (by repeat (first|(with_reducible first|exact HB.out|apply au|apply ah|apply av)|exact HB.out)) hb);have bC:=aj.mk (hbox);have bK:=aj.mk ((by rw [hg];exact (aA (by repeat (first|(with_reducible first|exact HB.out|apply au|apply ah|apply av)|exact HB.out))):w.heap.size≤oz));have bP:=aj.mk ((by rw [hg];exact (aA (by repeat (first|(with_reducible first|exact HB.out|apply au|apply ah|apply av)|exact HB.out))):w.heap.size≤oz));clear HB;have HB:=bB;have oC:=bC;have RD:=bK;have Bt:=bP;clear bB bC bK bP;clear hb hbox hg;have qj:R9.cell? ⟨oz,0,none⟩ = some (.int .i64 0):=(aa oC.out 0).trans rfl;have ql:R9.cell? ⟨oz,1,none⟩ = some (.int .i64 0):=(aa oC.out 1).trans rfl;have qm:=ae oC.out 0;have qo:=ae oC.out 1))
          go_ret
          exact ⟨by first|rfl|(simp [aQ,aT] <;> rfl)|(simp [*,aQ,aT] <;> rfl),by repeat (first|(with_reducible first|exact HB.out|apply au|apply ah|apply av|refine ak ?_ Bt.out)|exact HB.out)⟩
         ·rw [if_neg c13] at H
          have apB:decide (((pg l0 ji).f1) < 0) = false:=decide_eq_false c13
          clear c13
          by_cases c16:a1 ≥ 0
          ·rw [if_pos c16] at H
           have yg:decide (0≤a1) = true:=decide_eq_true c16
           clear c16
           by_cases c17:((pg l0 ji).f1) ≥ a1
           ·rw [if_pos c17] at H
            have aah:decide (a1≤((pg l0 ji).f1)) = true:=decide_eq_true c17
            clear c17
            obtain rfl:=Option.some.inj H
            have xk:0≤(ji:Int):=of_decide_eq_true (by first|(with_reducible assumption)|assumption)
            have xm:ji < (l0.length:Int):=of_decide_eq_true (by first|(with_reducible assumption)|assumption)
            obtain ⟨RB,LZ,kQ,kT⟩:=IA HR0.out ji xk xm
            cases LZ
            replace kQ:=(HB.out.cell (World.block_lt_of_cell? w _ kQ)).trans kQ
            replace kT:=(HB.out.cell (World.block_lt_of_cell? w _ kT)).trans kT
            replace xk:=eq_true xk
            replace xm:=eq_true xm
            go_wp2_with (first|((with_reducible refine bu (N:=6) rfl ?_);refine aY ?hg (N:=6) ?hd (cs:=#[.int .i64 0,.int .i64 0]) (t:=33) ?hr ?_;(case hd=>rfl);(case hg=>rfl);(case hr=>first|(go_simp;done)|(go_simp;rfl));intro oz hg Bc hbox hb;have bB:=aj.mk (ay (by repeat (first|(with_reducible first|exact HB.out|apply au|apply ah|apply av)|exact HB.out)) hb);have bC:=aj.mk (hbox);have bK:=aj.mk ((by rw [hg];exact (aA (by repeat (first|(with_reducible first|exact HB.out|apply au|apply ah|apply av)|exact HB.out))):w.heap.size≤oz));have bP:=aj.mk ((by rw [hg];exact (aA (by repeat (first|(with_reducible first|exact HB.out|apply au|apply ah|apply av)|exact HB.out))):w.heap.size≤oz));clear HB;have HB:=bB;have oC:=bC;have RD:=bK;have Bt:=bP;clear bB bC bK bP;clear hb hbox hg;have sJ:Bc.cell? ⟨oz,0,none⟩ = some (.int .i64 0):=(aa oC.out 0).trans rfl;have sK:Bc.cell? ⟨oz,1,none⟩ = some (.int .i64 0):=(aa oC.out 1).trans rfl;have sM:=ae oC.out 0;have sN:=ae oC.out 1))
            go_ret
            exact ⟨by first|rfl|(simp [aQ,aT] <;> rfl)|(simp [*,aQ,aT] <;> rfl),by repeat (first|(with_reducible first|exact HB.out|apply au|apply ah|apply av|refine ak ?_ Bt.out)|exact HB.out)⟩
           ·rw [if_neg c17] at H
            have aah:decide (a1≤((pg l0 ji).f1)) = false:=decide_eq_false c17
            clear c17
            have H':=aj.mk H
            clear H
            have xk:0≤(ji:Int):=of_decide_eq_true (by first|(with_reducible assumption)|assumption)
            have xm:ji < (l0.length:Int):=of_decide_eq_true (by first|(with_reducible assumption)|assumption)
            obtain ⟨RB,LZ,kQ,kT⟩:=IA HR0.out ji xk xm
            cases LZ
            replace kQ:=(HB.out.cell (World.block_lt_of_cell? w _ kQ)).trans kQ
            replace kT:=(HB.out.cell (World.block_lt_of_cell? w _ kT)).trans kT
            replace xk:=eq_true xk
            replace xm:=eq_true xm
            go_wp2_with (first|((with_reducible refine bu (N:=6) rfl ?_);refine aY ?hg (N:=6) ?hd (cs:=#[.int .i64 0,.int .i64 0]) (t:=33) ?hr ?_;(case hd=>rfl);(case hg=>rfl);(case hr=>first|(go_simp;done)|(go_simp;rfl));intro oz hg rO hbox hb;have bB:=aj.mk (ay (by repeat (first|(with_reducible first|exact HB.out|apply au|apply ah|apply av)|exact HB.out)) hb);have bC:=aj.mk (hbox);have bK:=aj.mk ((by rw [hg];exact (aA (by repeat (first|(with_reducible first|exact HB.out|apply au|apply ah|apply av)|exact HB.out))):w.heap.size≤oz));have bP:=aj.mk ((by rw [hg];exact (aA (by repeat (first|(with_reducible first|exact HB.out|apply au|apply ah|apply av)|exact HB.out))):w.heap.size≤oz));clear HB;have HB:=bB;have oC:=bC;have RD:=bK;have Bt:=bP;clear bB bC bK bP;clear hb hbox hg;have CW:rO.cell? ⟨oz,0,none⟩ = some (.int .i64 0):=(aa oC.out 0).trans rfl;have CX:rO.cell? ⟨oz,1,none⟩ = some (.int .i64 0):=(aa oC.out 1).trans rfl;have CY:=ae oC.out 0;have CZ:=ae oC.out 1))
            go_roundg k1
            case measure=>have:=GV.out;omega
            case rel=>exact ⟨(wrap64 (ji+1)),(by first|rfl|(simp;done)|(simp [*];done)),H',⟨by have:=GV.out;omega⟩,⟨by repeat (first|(with_reducible first|exact HB.out|apply au|apply ah|apply av|refine ak ?_ Bt.out)|exact HB.out)⟩⟩
          ·rw [if_neg c16] at H
           have yg:decide (0≤a1) = false:=decide_eq_false c16
           clear c16
           have H':=aj.mk H
           clear H
           have xk:0≤(ji:Int):=of_decide_eq_true (by first|(with_reducible assumption)|assumption)
           have xm:ji < (l0.length:Int):=of_decide_eq_true (by first|(with_reducible assumption)|assumption)
           obtain ⟨RB,LZ,kQ,kT⟩:=IA HR0.out ji xk xm
           cases LZ
           replace kQ:=(HB.out.cell (World.block_lt_of_cell? w _ kQ)).trans kQ
           replace kT:=(HB.out.cell (World.block_lt_of_cell? w _ kT)).trans kT
           replace xk:=eq_true xk
           replace xm:=eq_true xm
           go_wp2_with (first|((with_reducible refine bu (N:=6) rfl ?_);refine aY ?hg (N:=6) ?hd (cs:=#[.int .i64 0,.int .i64 0]) (t:=33) ?hr ?_;(case hd=>rfl);(case hg=>rfl);(case hr=>first|(go_simp;done)|(go_simp;rfl));intro oz hg IX hbox hb;have bB:=aj.mk (ay (by repeat (first|(with_reducible first|exact HB.out|apply au|apply ah|apply av)|exact HB.out)) hb);have bC:=aj.mk (hbox);have bK:=aj.mk ((by rw [hg];exact (aA (by repeat (first|(with_reducible first|exact HB.out|apply au|apply ah|apply av)|exact HB.out))):w.heap.size≤oz));have bP:=aj.mk ((by rw [hg];exact (aA (by repeat (first|(with_reducible first|exact HB.out|apply au|apply ah|apply av)|exact HB.out))):w.heap.size≤oz));clear HB;have HB:=bB;have oC:=bC;have RD:=bK;have Bt:=bP;clear bB bC bK bP;clear hb hbox hg;have C8:IX.cell? ⟨oz,0,none⟩ = some (.int .i64 0):=(aa oC.out 0).trans rfl;have C9:IX.cell? ⟨oz,1,none⟩ = some (.int .i64 0):=(aa oC.out 1).trans rfl;have Da:=ae oC.out 0;have Db:=ae oC.out 1))
           go_roundg k1
           case measure=>have:=GV.out;omega
           case rel=>exact ⟨(wrap64 (ji+1)),(by first|rfl|(simp;done)|(simp [*];done)),H',⟨by have:=GV.out;omega⟩,⟨by repeat (first|(with_reducible first|exact HB.out|apply au|apply ah|apply av|refine ak ?_ Bt.out)|exact HB.out)⟩⟩
      ·rw [if_neg c6] at H
       exact absurd H (by simp)
     ·rw [if_neg c5] at H
      exact absurd H (by simp)
    ·rw [if_neg c4] at H
     have wV:decide (ji < (l0.length:Int)) = false:=decide_eq_false c4
     clear c4
     obtain rfl:=Option.some.inj H
     go_wp2
     go_ret
     exact ⟨by first|rfl|(simp [aQ,aT] <;> rfl)|(simp [*,aQ,aT] <;> rfl),by repeat (first|(with_reducible first|exact HB.out|apply au|apply ah|apply av)|exact HB.out)⟩
end Go.Proofs.Ytmhaiihjfgfaoaa.Pr
end
