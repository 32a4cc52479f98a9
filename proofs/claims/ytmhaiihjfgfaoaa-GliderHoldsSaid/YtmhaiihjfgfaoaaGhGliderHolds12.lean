import Derived.Test.YtmhaiihjfgfaoaaGhGliderHolds3
import Derived.Test.YtmhaiihjfgfaoaaGhGliderHolds11
import Derived.Test.YtmhaiihjfgfaoaaGhGliderHolds8
section
namespace Go.Proofs.Ytmhaiihjfgfaoaa.Gl
open Go.RowKit Go.Shelf Go.Proofs.YtmhaiihjfgfaoaaW.PrintWords Go.Proofs.YtmhaiihjfgfaoaaW.PrintLast Go.Proofs.YtmhaiihjfgfaoaaW.PrintMore Go.Proofs.Ytmhaiihjfgfaoaa.Pr Go.Proofs.YtmhaiihjfgfaoaaW.Round
set_option linter.unusedVariables false
set_option linter.unusedSimpArgs false
attribute [local go_sem] cz cB dK dL cK
def BB (y:gz):Prop:=(-5000≤y.f0.f0∧y.f0.f0≤5000)∧(-5000≤y.f0.f1∧y.f0.f1≤5000)∧(-5000≤y.f1.f0∧y.f1.f0≤5000)∧(-5000≤y.f1.f1∧y.f1.f1≤5000)∧y.f0.f0≤y.f0.f1∧y.f1.f0≤y.f1.f1
theorem Yq:∀ (l:List gz) (o:Option gz),(∀ z,o = some z→BB z)→(∀ y ∈ l,BB y)→∀ z,l.foldl Uu o = some z→BB z
 |[],o,h,_=>h
 |y :: l,o,h,hl=>by
  refine Yq l _ (fun z hz=>?_) (fun q hq=>hl q (List.mem_cons_of_mem _ hq))
  have hy:=hl y List.mem_cons_self
  unfold Uu at hz
  cases o with
  |none=>cases hz;exact hy
  |some q =>
   cases hz
   have hq:=h q rfl
   unfold BB vW at*
   dsimp only
   omega
def aml (s:lF):Prop:=∀ c ∈ s.currents,(-5000≤c.f0.f0∧c.f0.f0≤5000)∧(-5000≤c.f0.f1∧c.f0.f1≤5000)∧(-5000≤c.f1.f0∧c.f1.f0≤5000)∧(-5000≤c.f1.f1∧c.f1.f1≤5000)∧c.f0.f0≤c.f0.f1∧c.f1.f0≤c.f1.f1
theorem Yr {s:lF} (hc:aml s) (x:gz) (layer t u:Int):BB (z8 s x layer t u):=by
 unfold z8
 have hz:BB z31:=by unfold BB z31 z27;decide
 cases h:qw (iP s x layer (t / s.slot) ((u - 1) / s.slot+1 - t / s.slot).toNat) with
 |none=>exact hz
 |some z =>
  refine Yq _ none (fun z h=>by cases h) (fun y hy=>?_) z h
  obtain ⟨r,_,hy⟩:=List.mem_flatMap.1 hy
  obtain ⟨c,_,rfl⟩:=List.mem_map.1 hy
  unfold rQ
  generalize ((t / s.slot+(r:Int))*s.layers+layer)*(s.nx*s.ny)+c = i
  have:aH s.currents i ∈ s.currents∨aH s.currents i = z40:=by
   unfold aH
   rw [List.getD_eq_getElem?_getD]
   cases h2:s.currents[i.toNat]? with
   |none=>exact .inr rfl
   |some q=>exact .inl (List.mem_of_getElem? h2)
  rcases this with h2|h2
  ·exact hc _ h2
  ·rw [h2]
   unfold BB z40 z27
   decide
end Go.Proofs.Ytmhaiihjfgfaoaa.Gl
end
section
namespace Go.Proofs.Ytmhaiihjfgfaoaa.Gl
open Go.RowKit Go.Shelf Go.Proofs.YtmhaiihjfgfaoaaW.PrintWords Go.Proofs.YtmhaiihjfgfaoaaW.PrintLast Go.Proofs.YtmhaiihjfgfaoaaW.PrintMore Go.Proofs.Ytmhaiihjfgfaoaa.Pr Go.Proofs.YtmhaiihjfgfaoaaW.Round
set_option linter.unusedVariables false
set_option linter.unusedSimpArgs false
attribute [local go_sem] cz cB dK dL cK
def dB (s:lF) (v:qO) (x:gz):gz:=⟨⟨x.f0.f0 - ((v.speed+s.most)*v.dive+999) / 1000,x.f0.f1+((v.speed+s.most)*v.dive+999) / 1000⟩,⟨x.f1.f0 - ((v.speed+s.most)*v.dive+999) / 1000,x.f1.f1+((v.speed+s.most)*v.dive+999) / 1000⟩⟩
def lY (s:lF) (v:qO) (x:gz) (t:Int):Int:=if (gN s (dB s v x) && ql s t (t+v.dive)) = true then 0 else 5
def Bp (s:lF) (v:qO) (x:gz) (t:Int):gz:=if lY s v x t = 0 then dB s v x else z31
def Bq (x:gz):Prop:=(-1099511627776≤x.f0.f0∧x.f0.f0≤1099511627776)∧(-1099511627776≤x.f0.f1∧x.f0.f1≤1099511627776)∧(-1099511627776≤x.f1.f0∧x.f1.f0≤1099511627776)∧(-1099511627776≤x.f1.f1∧x.f1.f1≤1099511627776)
set_option maxRecDepth 100000 in
set_option maxHeartbeats 4000000 in
theorem abq (b:Nat) (s:lF) (v:qO) (x:gz) (t:Int) (w:World) (hT:kZ w b s v) (hS:xz s) (hV:Br v) (hx:Bq x) (ht0:0≤t) (ht1:t≤1099511627776):
 Calls Try.prog 99 #[.pointer (some ⟨b,0,none⟩),.agg #[.int .i64 x.f0.f0,.int .i64 x.f0.f1,.int .i64 x.f1.f0,.int .i64 x.f1.f1],.int .i64 t] w (xA (.tuple #[.agg #[.int .i64 (Bp s v x t).f0.f0,.int .i64 (Bp s v x t).f0.f1,.int .i64 (Bp s v x t).f1.f0,.int .i64 (Bp s v x t).f1.f1],.int .i64 (lY s v x t)]) w):=by
 have qP:=Try.underlying31
 have pK:=Try.underlying27
 have hT0:=hT
 obtain ⟨A7,c7,A8,c8,mT,_⟩:=hT0
 have hm:=hS.most
 have hsp:=hV.speed
 have hdv:=hV.dive
 have p1:=fI (show 0≤v.speed+s.most by omega) (show v.speed+s.most≤10000 by omega) (show 0≤v.dive by omega) hdv.2
 have kC:=fun W (h:kZ W b s v)=>Rq b s v (dB s v x) W h hS
 have kN:=fun W (h:kZ W b s v)=>abr b s v t (t+v.dive) W h hS
 have HE:Hid (lY s v x t = if (gN s (dB s v x) && ql s t (t+v.dive)) = true then 0 else 5):=Lib.hid rfl
 have HV:Hid (Bp s v x t = if lY s v x t = 0 then dB s v x else z31):=Lib.hid rfl
 have hG:dB s v x = ⟨⟨x.f0.f0 - ((v.speed+s.most)*v.dive+999) / 1000,x.f0.f1+((v.speed+s.most)*v.dive+999) / 1000⟩,⟨x.f1.f0 - ((v.speed+s.most)*v.dive+999) / 1000,x.f1.f1+((v.speed+s.most)*v.dive+999) / 1000⟩⟩:=rfl
 obtain ⟨x0,x1,x2,x3⟩:=hx
 clear hS hV
 go_enter Try.func99,Try.ntmps99
 go_wp2_with fail
 have Dj:=dV mT
 have m4:iD ((w.alloc (.cells #[.int .i64 x.f0.f0,.int .i64 x.f0.f1,.int .i64 x.f1.f0,.int .i64 x.f1.f1] 31)).alloc (.cells #[.int .i64 0,.int .i64 0,.int .i64 0,.int .i64 0] 31)) (w.heap.size) #[.int .i64 x.f0.f0,.int .i64 x.f0.f1,.int .i64 x.f1.f0,.int .i64 x.f1.f1] 31:=(ag af6 _)
 have m6:iD ((w.alloc (.cells #[.int .i64 x.f0.f0,.int .i64 x.f0.f1,.int .i64 x.f1.f0,.int .i64 x.f1.f1] 31)).alloc (.cells #[.int .i64 0,.int .i64 0,.int .i64 0,.int .i64 0] 31)) (w.heap.size+1) #[.int .i64 0,.int .i64 0,.int .i64 0,.int .i64 0] 31:=(by have h_:=fT (w.alloc (.cells #[.int .i64 x.f0.f0,.int .i64 x.f0.f1,.int .i64 x.f1.f0,.int .i64 x.f1.f1] 31)) (.cells #[.int .i64 0,.int .i64 0,.int .i64 0,.int .i64 0] 31);first|exact h_|(simp only [World.size_alloc] at h_;exact h_))
 replace mT:iD ((w.alloc (.cells #[.int .i64 x.f0.f0,.int .i64 x.f0.f1,.int .i64 x.f1.f0,.int .i64 x.f1.f1] 31)).alloc (.cells #[.int .i64 0,.int .i64 0,.int .i64 0,.int .i64 0] 31)) b #[.int .i64 s.nx,.int .i64 s.ny,.int .i64 s.cell,.int .i64 s.slot,.int .i64 s.slots,.int .i64 s.layers,.int .i64 s.most,.slice A7 s.shores.length c7,.slice A8 s.currents.length c8,.int .i64 v.speed,.int .i64 v.dive,.int .i64 v.use.f0,.int .i64 v.use.f1,.int .i64 v.drift.f0,.int .i64 v.drift.f1,.int .i64 v.reserve] 110:=(ag (ag mT _) _)
 have mB:Below w.heap.size w ((w.alloc (.cells #[.int .i64 x.f0.f0,.int .i64 x.f0.f1,.int .i64 x.f1.f0,.int .i64 x.f1.f1] 31)).alloc (.cells #[.int .i64 0,.int .i64 0,.int .i64 0,.int .i64 0] 31)):=(aY (aY (Below.refl w.heap.size w) _) _)
 have nK:w.heap.size≤w.heap.size:=Nat.le_refl _
 generalize xV:((w.alloc (.cells #[.int .i64 x.f0.f0,.int .i64 x.f0.f1,.int .i64 x.f1.f0,.int .i64 x.f1.f1] 31)).alloc (.cells #[.int .i64 0,.int .i64 0,.int .i64 0,.int .i64 0] 31)) = W1 at mT m4 m6 mB ⊢
 clear xV
 generalize hg4:w.heap.size = g4 at m4 m6 ⊢
 have amm:b≠g4:=by omega
 have aCB:g4≠b:=amm.symm
 have hG4:w.heap.size≤g4:=by omega
 generalize hg6:g4+1 = g6 at m6 ⊢
 have KO:b≠g6:=by omega
 have WK:g4≠g6:=by omega
 have WH:g6≠b:=KO.symm
 have amn:g6≠g4:=WK.symm
 have Uw:w.heap.size≤g6:=by omega
 clear nK Dj
 try clear hg6
 try clear hg4
 have Dl:w.heap.size≤W1.heap.size:=mB.size
 have cT6:W1.cell? ⟨b,6,none⟩ = some (.int .i64 s.most):=(aa mT 6).trans rfl
 have cT9:W1.cell? ⟨b,9,none⟩ = some (.int .i64 v.speed):=(aa mT 9).trans rfl
 have amo:W1.cell? ⟨b,10,none⟩ = some (.int .i64 v.dive):=(aa mT 10).trans rfl
 have q1:wrap64 (v.speed+s.most) = v.speed+s.most:=by unfold wrap64;omega
 have q2:wrap64 ((v.speed+s.most)*v.dive) = (v.speed+s.most)*v.dive:=by unfold wrap64;omega
 have q3:wrap64 ((v.speed+s.most)*v.dive+999) = (v.speed+s.most)*v.dive+999:=by unfold wrap64;omega
 have q4:Int.tdiv ((v.speed+s.most)*v.dive+999) 1000 = ((v.speed+s.most)*v.dive+999) / 1000:=Int.tdiv_eq_ediv_of_nonneg (by omega)
 have hby:0≤((v.speed+s.most)*v.dive+999) / 1000∧((v.speed+s.most)*v.dive+999) / 1000≤2000000:=by omega
 go_quiet (fail)
 replace mT:=au mT nq
 replace m4:=au m4 nq
 replace m6:=au m6 nq
 replace mB:=l5 mB nq
 generalize hWq:World.drewN _ nq = W2 at mT m4 m6 mB ⊢
 clear hWq
 have x9:w.heap.size≤W2.heap.size:=mB.size
 clear cT6 cT9 amo q1 q2 q3 q4
 generalize ((v.speed+s.most)*v.dive+999) / 1000 = y at*
 clear p1
 generalize dB s v x = G at*
 subst hG
 dsimp only at kC
 obtain ⟨aCC,aCD,aCE,aCF⟩:=rV m4
 go_wp2_with fail
 clear aCC aCD aCE aCF
 have Dj:=dV mT
 have aCG:=dV m4
 have Rj:=dV m6
 have m9:iD (W2.alloc (.cells #[.int .i64 (x.f0.f0 - y),.int .i64 (x.f0.f1+y),.int .i64 (x.f1.f0 - y),.int .i64 (x.f1.f1+y)] 31)) (W2.heap.size) #[.int .i64 (x.f0.f0 - y),.int .i64 (x.f0.f1+y),.int .i64 (x.f1.f0 - y),.int .i64 (x.f1.f1+y)] 31:=(by have h_:=fT W2 (.cells #[.int .i64 (x.f0.f0 - y),.int .i64 (x.f0.f1+y),.int .i64 (x.f1.f0 - y),.int .i64 (x.f1.f1+y)] 31);first|exact h_|(simp only [World.size_alloc] at h_;exact h_))
 replace mT:iD (W2.alloc (.cells #[.int .i64 (x.f0.f0 - y),.int .i64 (x.f0.f1+y),.int .i64 (x.f1.f0 - y),.int .i64 (x.f1.f1+y)] 31)) b #[.int .i64 s.nx,.int .i64 s.ny,.int .i64 s.cell,.int .i64 s.slot,.int .i64 s.slots,.int .i64 s.layers,.int .i64 s.most,.slice A7 s.shores.length c7,.slice A8 s.currents.length c8,.int .i64 v.speed,.int .i64 v.dive,.int .i64 v.use.f0,.int .i64 v.use.f1,.int .i64 v.drift.f0,.int .i64 v.drift.f1,.int .i64 v.reserve] 110:=(ag mT _)
 replace m4:iD (W2.alloc (.cells #[.int .i64 (x.f0.f0 - y),.int .i64 (x.f0.f1+y),.int .i64 (x.f1.f0 - y),.int .i64 (x.f1.f1+y)] 31)) g4 #[.int .i64 x.f0.f0,.int .i64 x.f0.f1,.int .i64 x.f1.f0,.int .i64 x.f1.f1] 31:=(ag m4 _)
 replace m6:iD (W2.alloc (.cells #[.int .i64 (x.f0.f0 - y),.int .i64 (x.f0.f1+y),.int .i64 (x.f1.f0 - y),.int .i64 (x.f1.f1+y)] 31)) g6 #[.int .i64 0,.int .i64 0,.int .i64 0,.int .i64 0] 31:=(ag m6 _)
 replace mB:Below w.heap.size w (W2.alloc (.cells #[.int .i64 (x.f0.f0 - y),.int .i64 (x.f0.f1+y),.int .i64 (x.f1.f0 - y),.int .i64 (x.f1.f1+y)] 31)):=(aY mB _)
 have nK:w.heap.size≤W2.heap.size:=x9
 generalize xV:(W2.alloc (.cells #[.int .i64 (x.f0.f0 - y),.int .i64 (x.f0.f1+y),.int .i64 (x.f1.f0 - y),.int .i64 (x.f1.f1+y)] 31)) = W3 at mT m4 m6 m9 mB ⊢
 clear xV
 generalize hg9:W2.heap.size = g9 at m9 ⊢
 have OQ:b≠g9:=by omega
 have amr:g4≠g9:=by omega
 have OT:g6≠g9:=by omega
 have ado:g9≠b:=OQ.symm
 have aCH:g9≠g4:=amr.symm
 have adp:g9≠g6:=OT.symm
 have hG9:w.heap.size≤g9:=by omega
 clear nK Dj aCG Rj
 try clear hg9
 have LW:w.heap.size≤W3.heap.size:=mB.size
 have hcon:=kC W3 (hT.below mB)
 (with_reducible refine hcon.mono ?_)
 clear hcon
 rintro e W4 ⟨rfl,hb⟩
 replace mT:=aV mT hb
 replace m4:=aV m4 hb
 replace m6:=aV m6 hb
 replace m9:=aV m9 hb
 replace mB:=dY mB hb
 clear hb
 have UJ:w.heap.size≤W4.heap.size:=mB.size
 cases hc:gN s ⟨⟨x.f0.f0 - y,x.f0.f1+y⟩,⟨x.f1.f0 - y,x.f1.f1+y⟩⟩ with
 |false =>
  have HZ:Hid (lY s v x t = 5):=Lib.hid (by rw [HE.out,hc];rfl)
  clear HE
  have HV2:Hid (Bp s v x t = z31):=Lib.hid (HV.out.trans zS)
  clear HV
  obtain ⟨Rk,Rl,Rm,Rn,aoO,aoP,aoQ,aoR⟩:=iC m6
  go_wp2
  exact bodyPost_ret (lU rfl _ _ g6 31 #[.int .i64 0,.int .i64 0,.int .i64 0,.int .i64 0] (0,0) _ rfl (aI (aI (aI (aI m6 0 (.int .i64 0) rfl) 1 (.int .i64 0) rfl) 2 (.int .i64 0) rfl) 3 (.int .i64 0) rfl) Try.underlying31 rfl aR) rfl ⟨WL,(Below.setCell (p:=⟨g6,3,none⟩) (Below.setCell (p:=⟨g6,2,none⟩) (Below.setCell (p:=⟨g6,1,none⟩) (Below.setCell (p:=⟨g6,0,none⟩) mB Uw _) Uw _) Uw _) Uw _)⟩
 |true =>
  have HC:=Lib.hid hc
  clear hc
  have amo:W4.cell? ⟨b,10,none⟩ = some (.int .i64 v.dive):=(aa mT 10).trans rfl
  go_wp2_with fail
  clear amo
  have hcon:=kN W4 (hT.below mB)
  (with_reducible refine hcon.mono ?_)
  clear hcon
  rintro e W5 ⟨rfl,hb⟩
  replace mT:=aV mT hb
  replace m4:=aV m4 hb
  replace m6:=aV m6 hb
  replace m9:=aV m9 hb
  replace mB:=dY mB hb
  clear hb
  have adr:w.heap.size≤W5.heap.size:=mB.size
  cases hk:ql s t (t+v.dive) with
  |false =>
   have HZ:Hid (lY s v x t = 5):=Lib.hid (by rw [HE.out,HC.out,hk];rfl)
   clear HE
   have HV2:Hid (Bp s v x t = z31):=Lib.hid (HV.out.trans zS)
   clear HV
   obtain ⟨Rk,Rl,Rm,Rn,aoO,aoP,aoQ,aoR⟩:=iC m6
   go_wp2
   exact bodyPost_ret (lU rfl _ _ g6 31 #[.int .i64 0,.int .i64 0,.int .i64 0,.int .i64 0] (0,0) _ rfl (aI (aI (aI (aI m6 0 (.int .i64 0) rfl) 1 (.int .i64 0) rfl) 2 (.int .i64 0) rfl) 3 (.int .i64 0) rfl) Try.underlying31 rfl aR) rfl ⟨WL,(Below.setCell (p:=⟨g6,3,none⟩) (Below.setCell (p:=⟨g6,2,none⟩) (Below.setCell (p:=⟨g6,1,none⟩) (Below.setCell (p:=⟨g6,0,none⟩) mB Uw _) Uw _) Uw _) Uw _)⟩
  |true =>
   have HZ:Hid (lY s v x t = 0):=Lib.hid (by rw [HE.out,HC.out,hk];rfl)
   clear HE hk
   have HV2:=Lib.hid (HV.out.trans (if_pos HZ.out))
   clear HV
   obtain ⟨Rk,Rl,Rm,Rn⟩:=rV m6
   obtain ⟨ads,adt,aIw,aIx⟩:=rV m9
   obtain ⟨aoO,aoP,aoQ,aoR⟩:=af5 m6
   go_wp2
   exact bodyPost_ret (lU rfl _ _ g6 31 #[.int .i64 (x.f0.f0 - y),.int .i64 (x.f0.f1+y),.int .i64 (x.f1.f0 - y),.int .i64 (x.f1.f1+y)] (0,0) _ rfl (aI (aI (aI (aI m6 0 (.int .i64 (x.f0.f0 - y)) rfl) 1 (.int .i64 (x.f0.f1+y)) rfl) 2 (.int .i64 (x.f1.f0 - y)) rfl) 3 (.int .i64 (x.f1.f1+y)) rfl) Try.underlying31 rfl aR) rfl ⟨WL,(Below.setCell (p:=⟨g6,3,none⟩) (Below.setCell (p:=⟨g6,2,none⟩) (Below.setCell (p:=⟨g6,1,none⟩) (Below.setCell (p:=⟨g6,0,none⟩) mB Uw _) Uw _) Uw _) Uw _)⟩
end Go.Proofs.Ytmhaiihjfgfaoaa.Gl
end
