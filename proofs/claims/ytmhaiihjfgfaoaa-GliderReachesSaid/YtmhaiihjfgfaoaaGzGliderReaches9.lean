import Derived.Test.YtmhaiihjfgfaoaaGzGliderReaches3
import Derived.Test.YtmhaiihjfgfaoaaGzGliderReaches8
import Derived.Test.YtmhaiihjfgfaoaaGzGliderReaches5
open Go.Value renaming int → U
open Go.IntKind renaming i64 → Z
open Bool renaming true → ab, false → ac
section
namespace Go.Proofs.Ytmhaiihjfgfaoaa.Gl
open Go.RowKit Go.Shelf Go.Proofs.YtmhaiihjfgfaoaaW.PrintWords Go.Proofs.YtmhaiihjfgfaoaaW.PrintLast Go.Proofs.YtmhaiihjfgfaoaaW.PrintMore Go.Proofs.Ytmhaiihjfgfaoaa.Pr Go.Proofs.YtmhaiihjfgfaoaaW.Round
set_option linter.unusedVariables false
set_option linter.unusedSimpArgs false
attribute [local go_sem] eD eF fD fE eG
def BB (y:dO):Prop:=(-5000≤y.f0.f0∧y.f0.f0≤5000)∧(-5000≤y.f0.f1∧y.f0.f1≤5000)∧(-5000≤y.f1.f0∧y.f1.f0≤5000)∧(-5000≤y.f1.f1∧y.f1.f1≤5000)∧y.f0.f0≤y.f0.f1∧y.f1.f0≤y.f1.f1
theorem ae7:∀ (l:List dO) (o:Option dO),(∀ z,o = some z→BB z)→(∀ y ∈ l,BB y)→∀ z,l.foldl Y8 o = some z→BB z
 |[],o,h,_=>h
 |y :: l,o,h,hl=>by
  refine ae7 l _ (fun z hz=>?_) (fun q hq=>hl q (List.mem_cons_of_mem _ hq))
  have hy:=hl y List.mem_cons_self
  unfold Y8 at hz
  cases o with
  |none=>cases hz;exact hy
  |some q =>
   cases hz
   have hq:=h q rfl
   unfold BB oJ at*
   dsimp only
   omega
def auG (s:j3):Prop:=∀ c ∈ s.currents,(-5000≤c.f0.f0∧c.f0.f0≤5000)∧(-5000≤c.f0.f1∧c.f0.f1≤5000)∧(-5000≤c.f1.f0∧c.f1.f0≤5000)∧(-5000≤c.f1.f1∧c.f1.f1≤5000)∧c.f0.f0≤c.f0.f1∧c.f1.f0≤c.f1.f1
theorem aa6 {s:j3} (hc:auG s) (x:dO) (layer t u:Int):BB (SB s x layer t u):=by
 unfold SB
 have hz:BB z31:=by unfold BB z31 z27;decide
 cases h:uR (je s x layer (t / s.slot) ((u - 1) / s.slot+1 - t / s.slot).toNat) with
 |none=>exact hz
 |some z =>
  refine ae7 _ none (fun z h=>by cases h) (fun y hy=>?_) z h
  obtain ⟨r,_,hy⟩:=List.mem_flatMap.1 hy
  obtain ⟨c,_,rfl⟩:=List.mem_map.1 hy
  unfold Aa
  generalize ((t / s.slot+(r:Int))*s.layers+layer)*(s.nx*s.ny)+c = i
  have:bu s.currents i ∈ s.currents∨bu s.currents i = z40:=by
   unfold bu
   rw [List.getD_eq_getElem?_getD]
   cases h2:s.currents[i.toNat]? with
   |none=>exact .inr rfl
   |some q=>exact .inl (List.mem_of_getElem? h2)
  rcases this with h2|h2
  ·exact hc _ h2
  ·rw [h2]
   unfold BB z40 z27
   decide
def dQ (s:j3) (v:nz) (x:dO):dO:=⟨⟨x.f0.f0 - ((v.speed+s.most)*v.dive+999) / 1000,x.f0.f1+((v.speed+s.most)*v.dive+999) / 1000⟩,⟨x.f1.f0 - ((v.speed+s.most)*v.dive+999) / 1000,x.f1.f1+((v.speed+s.most)*v.dive+999) / 1000⟩⟩
def ig (s:j3) (v:nz) (x:dO) (t:Int):Int:=if (iI s (dQ s v x) && sJ s t (t+v.dive)) = true then 0 else 5
def wS (s:j3) (v:nz) (x:dO) (t:Int):dO:=if ig s v x t = 0 then dQ s v x else z31
def EN (x:dO):Prop:=(-1099511627776≤x.f0.f0∧x.f0.f0≤1099511627776)∧(-1099511627776≤x.f0.f1∧x.f0.f1≤1099511627776)∧(-1099511627776≤x.f1.f0∧x.f1.f0≤1099511627776)∧(-1099511627776≤x.f1.f1∧x.f1.f1≤1099511627776)
set_option maxRecDepth 100000 in
set_option maxHeartbeats 4000000 in
theorem Ny (b:Nat) (s:j3) (v:nz) (x:dO) (t:Int) (w:World) (hT:jo w b s v) (hS:Dy s) (hV:wO v) (hx:EN x) (ht0:0≤t) (ht1:t≤1099511627776):
 Calls Try.prog 99 #[.pointer (some ⟨b,0,none⟩),.agg #[U Z x.f0.f0,U Z x.f0.f1,U Z x.f1.f0,U Z x.f1.f1],U Z t] w (sI (.tuple #[.agg #[U Z (wS s v x t).f0.f0,U Z (wS s v x t).f0.f1,U Z (wS s v x t).f1.f0,U Z (wS s v x t).f1.f1],U Z (ig s v x t)]) w):=by
 have oP:=Try.underlying31
 have oo:=Try.underlying27
 have hT0:=hT
 obtain ⟨A7,c7,A8,c8,mT,_⟩:=hT0
 have hm:=hS.most
 have hsp:=hV.speed
 have hdv:=hV.dive
 have p1:=iF (show 0≤v.speed+s.most by omega) (show v.speed+s.most≤10000 by omega) (show 0≤v.dive by omega) hdv.2
 have kC:=fun W (h:jo W b s v)=>Xt b s v (dQ s v x) W h hS
 have kN:=fun W (h:jo W b s v)=>agR b s v t (t+v.dive) W h hS
 have HE:Hid (ig s v x t = if (iI s (dQ s v x) && sJ s t (t+v.dive)) = true then 0 else 5):=Lib.hid rfl
 have HV:Hid (wS s v x t = if ig s v x t = 0 then dQ s v x else z31):=Lib.hid rfl
 have hG:dQ s v x = ⟨⟨x.f0.f0 - ((v.speed+s.most)*v.dive+999) / 1000,x.f0.f1+((v.speed+s.most)*v.dive+999) / 1000⟩,⟨x.f1.f0 - ((v.speed+s.most)*v.dive+999) / 1000,x.f1.f1+((v.speed+s.most)*v.dive+999) / 1000⟩⟩:=rfl
 obtain ⟨x0,x1,x2,x3⟩:=hx
 clear hS hV
 go_enter Try.func99,Try.ntmps99
 go_wp2_with fail
 have wP:=bP mT
 have m4:eT ((w.alloc (.cells #[U Z x.f0.f0,U Z x.f0.f1,U Z x.f1.f0,U Z x.f1.f1] 31)).alloc (.cells #[U Z 0,U Z 0,U Z 0,U Z 0] 31)) (w.heap.size) #[U Z x.f0.f0,U Z x.f0.f1,U Z x.f1.f0,U Z x.f1.f1] 31:=(ae ag9 _)
 have m6:eT ((w.alloc (.cells #[U Z x.f0.f0,U Z x.f0.f1,U Z x.f1.f0,U Z x.f1.f1] 31)).alloc (.cells #[U Z 0,U Z 0,U Z 0,U Z 0] 31)) (w.heap.size+1) #[U Z 0,U Z 0,U Z 0,U Z 0] 31:=(by have h_:=eP (w.alloc (.cells #[U Z x.f0.f0,U Z x.f0.f1,U Z x.f1.f0,U Z x.f1.f1] 31)) (.cells #[U Z 0,U Z 0,U Z 0,U Z 0] 31);first|exact h_|(simp only [World.size_alloc] at h_;exact h_))
 replace mT:eT ((w.alloc (.cells #[U Z x.f0.f0,U Z x.f0.f1,U Z x.f1.f0,U Z x.f1.f1] 31)).alloc (.cells #[U Z 0,U Z 0,U Z 0,U Z 0] 31)) b #[U Z s.nx,U Z s.ny,U Z s.cell,U Z s.slot,U Z s.slots,U Z s.layers,U Z s.most,.slice A7 s.shores.length c7,.slice A8 s.currents.length c8,U Z v.speed,U Z v.dive,U Z v.use.f0,U Z v.use.f1,U Z v.drift.f0,U Z v.drift.f1,U Z v.reserve] 110:=(ae (ae mT _) _)
 have mB:Below w.heap.size w ((w.alloc (.cells #[U Z x.f0.f0,U Z x.f0.f1,U Z x.f1.f0,U Z x.f1.f1] 31)).alloc (.cells #[U Z 0,U Z 0,U Z 0,U Z 0] 31)):=(aT (aT (Below.refl w.heap.size w) _) _)
 have jS:w.heap.size≤w.heap.size:=Nat.le_refl _
 generalize qL:((w.alloc (.cells #[U Z x.f0.f0,U Z x.f0.f1,U Z x.f1.f0,U Z x.f1.f1] 31)).alloc (.cells #[U Z 0,U Z 0,U Z 0,U Z 0] 31)) = W1 at mT m4 m6 mB ⊢
 clear qL
 generalize hg4:w.heap.size = g4 at m4 m6 ⊢
 have awQ:b≠g4:=by omega
 have aP1:g4≠b:=awQ.symm
 have hG4:w.heap.size≤g4:=by omega
 generalize UC:g4+1 = g6 at m6 ⊢
 have EO:b≠g6:=by omega
 have zS:g4≠g6:=by omega
 have Rb:g6≠b:=EO.symm
 have UQ:g6≠g4:=zS.symm
 have SC:w.heap.size≤g6:=by omega
 clear jS wP
 try clear UC
 try clear hg4
 have wG:w.heap.size≤W1.heap.size:=mB.size
 have cT6:W1.cell? ⟨b,6,none⟩ = some (U Z s.most):=(af mT 6).trans rfl
 have cT9:W1.cell? ⟨b,9,none⟩ = some (U Z v.speed):=(af mT 9).trans rfl
 have awR:W1.cell? ⟨b,10,none⟩ = some (U Z v.dive):=(af mT 10).trans rfl
 have q1:wrap64 (v.speed+s.most) = v.speed+s.most:=by unfold wrap64;omega
 have q2:wrap64 ((v.speed+s.most)*v.dive) = (v.speed+s.most)*v.dive:=by unfold wrap64;omega
 have q3:wrap64 ((v.speed+s.most)*v.dive+999) = (v.speed+s.most)*v.dive+999:=by unfold wrap64;omega
 have q4:Int.tdiv ((v.speed+s.most)*v.dive+999) 1000 = ((v.speed+s.most)*v.dive+999) / 1000:=Int.tdiv_eq_ediv_of_nonneg (by omega)
 have hby:0≤((v.speed+s.most)*v.dive+999) / 1000∧((v.speed+s.most)*v.dive+999) / 1000≤2000000:=by omega
 go_quiet (fail)
 replace mT:=au mT nq
 replace m4:=au m4 nq
 replace m6:=au m6 nq
 replace mB:=nA mB nq
 generalize hWq:World.drewN _ nq = W2 at mT m4 m6 mB ⊢
 clear hWq
 have sO:w.heap.size≤W2.heap.size:=mB.size
 clear cT6 cT9 awR q1 q2 q3 q4
 generalize ((v.speed+s.most)*v.dive+999) / 1000 = y at*
 clear p1
 generalize dQ s v x = G at*
 subst hG
 dsimp only at kC
 obtain ⟨WO,awh,aP2,aP3⟩:=nV m4
 go_wp2_with fail
 clear WO awh aP2 aP3
 have wP:=bP mT
 have aaM:=bP m4
 have wT:=bP m6
 have m9:eT (W2.alloc (.cells #[U Z (x.f0.f0 - y),U Z (x.f0.f1+y),U Z (x.f1.f0 - y),U Z (x.f1.f1+y)] 31)) (W2.heap.size) #[U Z (x.f0.f0 - y),U Z (x.f0.f1+y),U Z (x.f1.f0 - y),U Z (x.f1.f1+y)] 31:=(by have h_:=eP W2 (.cells #[U Z (x.f0.f0 - y),U Z (x.f0.f1+y),U Z (x.f1.f0 - y),U Z (x.f1.f1+y)] 31);first|exact h_|(simp only [World.size_alloc] at h_;exact h_))
 replace mT:eT (W2.alloc (.cells #[U Z (x.f0.f0 - y),U Z (x.f0.f1+y),U Z (x.f1.f0 - y),U Z (x.f1.f1+y)] 31)) b #[U Z s.nx,U Z s.ny,U Z s.cell,U Z s.slot,U Z s.slots,U Z s.layers,U Z s.most,.slice A7 s.shores.length c7,.slice A8 s.currents.length c8,U Z v.speed,U Z v.dive,U Z v.use.f0,U Z v.use.f1,U Z v.drift.f0,U Z v.drift.f1,U Z v.reserve] 110:=(ae mT _)
 replace m4:eT (W2.alloc (.cells #[U Z (x.f0.f0 - y),U Z (x.f0.f1+y),U Z (x.f1.f0 - y),U Z (x.f1.f1+y)] 31)) g4 #[U Z x.f0.f0,U Z x.f0.f1,U Z x.f1.f0,U Z x.f1.f1] 31:=(ae m4 _)
 replace m6:eT (W2.alloc (.cells #[U Z (x.f0.f0 - y),U Z (x.f0.f1+y),U Z (x.f1.f0 - y),U Z (x.f1.f1+y)] 31)) g6 #[U Z 0,U Z 0,U Z 0,U Z 0] 31:=(ae m6 _)
 replace mB:Below w.heap.size w (W2.alloc (.cells #[U Z (x.f0.f0 - y),U Z (x.f0.f1+y),U Z (x.f1.f0 - y),U Z (x.f1.f1+y)] 31)):=(aT mB _)
 have jS:w.heap.size≤W2.heap.size:=sO
 generalize qL:(W2.alloc (.cells #[U Z (x.f0.f0 - y),U Z (x.f0.f1+y),U Z (x.f1.f0 - y),U Z (x.f1.f1+y)] 31)) = W3 at mT m4 m6 m9 mB ⊢
 clear qL
 generalize hg9:W2.heap.size = g9 at m9 ⊢
 have Re:b≠g9:=by omega
 have awS:g4≠g9:=by omega
 have Rf:g6≠g9:=by omega
 have aha:g9≠b:=Re.symm
 have aP4:g9≠g4:=awS.symm
 have ahb:g9≠g6:=Rf.symm
 have hG9:w.heap.size≤g9:=by omega
 clear jS wP aaM wT
 try clear hg9
 have Ha:w.heap.size≤W3.heap.size:=mB.size
 have hcon:=kC W3 (hT.below mB)
 (with_reducible refine hcon.mono ?_)
 clear hcon
 rintro e W4 ⟨rfl,hb⟩
 replace mT:=av mT hb
 replace m4:=av m4 hb
 replace m6:=av m6 hb
 replace m9:=av m9 hb
 replace mB:=bO mB hb
 clear hb
 have O3:w.heap.size≤W4.heap.size:=mB.size
 cases hc:iI s ⟨⟨x.f0.f0 - y,x.f0.f1+y⟩,⟨x.f1.f0 - y,x.f1.f1+y⟩⟩ with
 |false =>
  have HZ:Hid (ig s v x t = 5):=Lib.hid (by rw [HE.out,hc];rfl)
  clear HE
  have HV2:Hid (wS s v x t = z31):=Lib.hid (HV.out.trans o6)
  clear HV
  obtain ⟨DF,Kz,KA,KC,aFE,aFF,aFG,aFH⟩:=gD m6
  go_wp2
  exact bodyPost_ret (oN rfl _ _ g6 31 #[U Z 0,U Z 0,U Z 0,U Z 0] (0,0) _ rfl (aI (aI (aI (aI m6 0 (U Z 0) rfl) 1 (U Z 0) rfl) 2 (U Z 0) rfl) 3 (U Z 0) rfl) Try.underlying31 rfl aY) rfl ⟨ZM,(Below.setCell (p:=⟨g6,3,none⟩) (Below.setCell (p:=⟨g6,2,none⟩) (Below.setCell (p:=⟨g6,1,none⟩) (Below.setCell (p:=⟨g6,0,none⟩) mB SC _) SC _) SC _) SC _)⟩
 |true =>
  have HC:=Lib.hid hc
  clear hc
  have awR:W4.cell? ⟨b,10,none⟩ = some (U Z v.dive):=(af mT 10).trans rfl
  go_wp2_with fail
  clear awR
  have hcon:=kN W4 (hT.below mB)
  (with_reducible refine hcon.mono ?_)
  clear hcon
  rintro e W5 ⟨rfl,hb⟩
  replace mT:=av mT hb
  replace m4:=av m4 hb
  replace m6:=av m6 hb
  replace m9:=av m9 hb
  replace mB:=bO mB hb
  clear hb
  have Rj:w.heap.size≤W5.heap.size:=mB.size
  cases hk:sJ s t (t+v.dive) with
  |false =>
   have HZ:Hid (ig s v x t = 5):=Lib.hid (by rw [HE.out,HC.out,hk];rfl)
   clear HE
   have HV2:Hid (wS s v x t = z31):=Lib.hid (HV.out.trans o6)
   clear HV
   obtain ⟨DF,Kz,KA,KC,aFE,aFF,aFG,aFH⟩:=gD m6
   go_wp2
   exact bodyPost_ret (oN rfl _ _ g6 31 #[U Z 0,U Z 0,U Z 0,U Z 0] (0,0) _ rfl (aI (aI (aI (aI m6 0 (U Z 0) rfl) 1 (U Z 0) rfl) 2 (U Z 0) rfl) 3 (U Z 0) rfl) Try.underlying31 rfl aY) rfl ⟨ZM,(Below.setCell (p:=⟨g6,3,none⟩) (Below.setCell (p:=⟨g6,2,none⟩) (Below.setCell (p:=⟨g6,1,none⟩) (Below.setCell (p:=⟨g6,0,none⟩) mB SC _) SC _) SC _) SC _)⟩
  |true =>
   have HZ:Hid (ig s v x t = 0):=Lib.hid (by rw [HE.out,HC.out,hk];rfl)
   clear HE hk
   have HV2:=Lib.hid (HV.out.trans (if_pos HZ.out))
   clear HV
   obtain ⟨DF,Kz,KA,KC⟩:=nV m6
   obtain ⟨ahD,ahE,aVt,aVu⟩:=nV m9
   obtain ⟨aFE,aFF,aFG,aFH⟩:=arn m6
   go_wp2
   exact bodyPost_ret (oN rfl _ _ g6 31 #[U Z (x.f0.f0 - y),U Z (x.f0.f1+y),U Z (x.f1.f0 - y),U Z (x.f1.f1+y)] (0,0) _ rfl (aI (aI (aI (aI m6 0 (U Z (x.f0.f0 - y)) rfl) 1 (U Z (x.f0.f1+y)) rfl) 2 (U Z (x.f1.f0 - y)) rfl) 3 (U Z (x.f1.f1+y)) rfl) Try.underlying31 rfl aY) rfl ⟨ZM,(Below.setCell (p:=⟨g6,3,none⟩) (Below.setCell (p:=⟨g6,2,none⟩) (Below.setCell (p:=⟨g6,1,none⟩) (Below.setCell (p:=⟨g6,0,none⟩) mB SC _) SC _) SC _) SC _)⟩
end Go.Proofs.Ytmhaiihjfgfaoaa.Gl
end
