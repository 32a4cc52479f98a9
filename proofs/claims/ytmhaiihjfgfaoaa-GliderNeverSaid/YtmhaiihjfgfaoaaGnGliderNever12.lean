import Derived.Test.YtmhaiihjfgfaoaaGnGliderNever3
import Derived.Test.YtmhaiihjfgfaoaaGnGliderNever11
import Derived.Test.YtmhaiihjfgfaoaaGnGliderNever8
open Go.Value renaming int → Z
open Go.IntKind renaming i64 → ab
open Bool renaming true → ac, false → al
section
namespace Go.Proofs.Ytmhaiihjfgfaoaa.Gl
open Go.RowKit Go.Shelf Go.Proofs.YtmhaiihjfgfaoaaW.PrintWords Go.Proofs.YtmhaiihjfgfaoaaW.PrintLast Go.Proofs.YtmhaiihjfgfaoaaW.PrintMore Go.Proofs.Ytmhaiihjfgfaoaa.Pr Go.Proofs.YtmhaiihjfgfaoaaW.Round
set_option linter.unusedVariables false
set_option linter.unusedSimpArgs false
attribute [local go_sem] dw dx dM dN dz
def BB (y:cZ):Prop:=(-5000≤y.f0.f0∧y.f0.f0≤5000)∧(-5000≤y.f0.f1∧y.f0.f1≤5000)∧(-5000≤y.f1.f0∧y.f1.f0≤5000)∧(-5000≤y.f1.f1∧y.f1.f1≤5000)∧y.f0.f0≤y.f0.f1∧y.f1.f0≤y.f1.f1
theorem ado:∀ (l:List cZ) (o:Option cZ),(∀ z,o = some z→BB z)→(∀ y ∈ l,BB y)→∀ z,l.foldl Ya o = some z→BB z
 |[],o,h,_=>h
 |y :: l,o,h,hl=>by
  refine ado l _ (fun z hz=>?_) (fun q hq=>hl q (List.mem_cons_of_mem _ hq))
  have hy:=hl y List.mem_cons_self
  unfold Ya at hz
  cases o with
  |none=>cases hz;exact hy
  |some q =>
   cases hz
   have hq:=h q rfl
   unfold BB mW at*
   dsimp only
   omega
def aoY (s:fT):Prop:=∀ c ∈ s.currents,(-5000≤c.f0.f0∧c.f0.f0≤5000)∧(-5000≤c.f0.f1∧c.f0.f1≤5000)∧(-5000≤c.f1.f0∧c.f1.f0≤5000)∧(-5000≤c.f1.f1∧c.f1.f1≤5000)∧c.f0.f0≤c.f0.f1∧c.f1.f0≤c.f1.f1
theorem adp {s:fT} (hc:aoY s) (x:cZ) (layer t u:Int):BB (R8 s x layer t u):=by
 unfold R8
 have hz:BB z31:=by unfold BB z31 z27;decide
 cases h:qa (fI s x layer (t / s.slot) ((u - 1) / s.slot+1 - t / s.slot).toNat) with
 |none=>exact hz
 |some z =>
  refine ado _ none (fun z h=>by cases h) (fun y hy=>?_) z h
  obtain ⟨r,_,hy⟩:=List.mem_flatMap.1 hy
  obtain ⟨c,_,rfl⟩:=List.mem_map.1 hy
  unfold uT
  generalize ((t / s.slot+(r:Int))*s.layers+layer)*(s.nx*s.ny)+c = i
  have:bQ s.currents i ∈ s.currents∨bQ s.currents i = z40:=by
   unfold bQ
   rw [List.getD_eq_getElem?_getD]
   cases h2:s.currents[i.toNat]? with
   |none=>exact .inr rfl
   |some q=>exact .inl (List.mem_of_getElem? h2)
  rcases this with h2|h2
  ·exact hc _ h2
  ·rw [h2]
   unfold BB z40 z27
   decide
def dE (s:fT) (v:iw) (x:cZ):cZ:=⟨⟨x.f0.f0 - ((v.speed+s.most)*v.dive+999) / 1000,x.f0.f1+((v.speed+s.most)*v.dive+999) / 1000⟩,⟨x.f1.f0 - ((v.speed+s.most)*v.dive+999) / 1000,x.f1.f1+((v.speed+s.most)*v.dive+999) / 1000⟩⟩
def eP (s:fT) (v:iw) (x:cZ) (t:Int):Int:=if (ik s (dE s v x) && rA s t (t+v.dive)) = true then 0 else 5
def rC (s:fT) (v:iw) (x:cZ) (t:Int):cZ:=if eP s v x t = 0 then dE s v x else z31
def Cc (x:cZ):Prop:=(-1099511627776≤x.f0.f0∧x.f0.f0≤1099511627776)∧(-1099511627776≤x.f0.f1∧x.f0.f1≤1099511627776)∧(-1099511627776≤x.f1.f0∧x.f1.f0≤1099511627776)∧(-1099511627776≤x.f1.f1∧x.f1.f1≤1099511627776)
set_option maxRecDepth 100000 in
set_option maxHeartbeats 4000000 in
theorem JR (b:Nat) (s:fT) (v:iw) (x:cZ) (t:Int) (w:World) (hT:dZ w b s v) (hS:Fg s) (hV:uF v) (hx:Cc x) (ht0:0≤t) (ht1:t≤1099511627776):
 Calls Try.prog 99 #[.pointer (some ⟨b,0,none⟩),.agg #[Z ab x.f0.f0,Z ab x.f0.f1,Z ab x.f1.f0,Z ab x.f1.f1],Z ab t] w (oo (.tuple #[.agg #[Z ab (rC s v x t).f0.f0,Z ab (rC s v x t).f0.f1,Z ab (rC s v x t).f1.f0,Z ab (rC s v x t).f1.f1],Z ab (eP s v x t)]) w):=by
 have pG:=Try.underlying31
 have mE:=Try.underlying27
 have hT0:=hT
 obtain ⟨A7,c7,A8,c8,mT,_⟩:=hT0
 have hm:=hS.most
 have hsp:=hV.speed
 have hdv:=hV.dive
 have p1:=jy (show 0≤v.speed+s.most by omega) (show v.speed+s.most≤10000 by omega) (show 0≤v.dive by omega) hdv.2
 have kC:=fun W (h:dZ W b s v)=>TD b s v (dE s v x) W h hS
 have kN:=fun W (h:dZ W b s v)=>afQ b s v t (t+v.dive) W h hS
 have HE:Hid (eP s v x t = if (ik s (dE s v x) && rA s t (t+v.dive)) = true then 0 else 5):=Lib.hid rfl
 have HV:Hid (rC s v x t = if eP s v x t = 0 then dE s v x else z31):=Lib.hid rfl
 have hG:dE s v x = ⟨⟨x.f0.f0 - ((v.speed+s.most)*v.dive+999) / 1000,x.f0.f1+((v.speed+s.most)*v.dive+999) / 1000⟩,⟨x.f1.f0 - ((v.speed+s.most)*v.dive+999) / 1000,x.f1.f1+((v.speed+s.most)*v.dive+999) / 1000⟩⟩:=rfl
 obtain ⟨x0,x1,x2,x3⟩:=hx
 clear hS hV
 go_enter Try.func99,Try.ntmps99
 go_wp2_with fail
 have mF:=aD mT
 have m4:aZ ((w.alloc (.cells #[Z ab x.f0.f0,Z ab x.f0.f1,Z ab x.f1.f0,Z ab x.f1.f1] 31)).alloc (.cells #[Z ab 0,Z ab 0,Z ab 0,Z ab 0] 31)) (w.heap.size) #[Z ab x.f0.f0,Z ab x.f0.f1,Z ab x.f1.f0,Z ab x.f1.f1] 31:=(aa afR _)
 have m6:aZ ((w.alloc (.cells #[Z ab x.f0.f0,Z ab x.f0.f1,Z ab x.f1.f0,Z ab x.f1.f1] 31)).alloc (.cells #[Z ab 0,Z ab 0,Z ab 0,Z ab 0] 31)) (w.heap.size+1) #[Z ab 0,Z ab 0,Z ab 0,Z ab 0] 31:=(by have h_:=bB (w.alloc (.cells #[Z ab x.f0.f0,Z ab x.f0.f1,Z ab x.f1.f0,Z ab x.f1.f1] 31)) (.cells #[Z ab 0,Z ab 0,Z ab 0,Z ab 0] 31);first|exact h_|(simp only [World.size_alloc] at h_;exact h_))
 replace mT:aZ ((w.alloc (.cells #[Z ab x.f0.f0,Z ab x.f0.f1,Z ab x.f1.f0,Z ab x.f1.f1] 31)).alloc (.cells #[Z ab 0,Z ab 0,Z ab 0,Z ab 0] 31)) b #[Z ab s.nx,Z ab s.ny,Z ab s.cell,Z ab s.slot,Z ab s.slots,Z ab s.layers,Z ab s.most,.slice A7 s.shores.length c7,.slice A8 s.currents.length c8,Z ab v.speed,Z ab v.dive,Z ab v.use.f0,Z ab v.use.f1,Z ab v.drift.f0,Z ab v.drift.f1,Z ab v.reserve] 110:=(aa (aa mT _) _)
 have mB:Below w.heap.size w ((w.alloc (.cells #[Z ab x.f0.f0,Z ab x.f0.f1,Z ab x.f1.f0,Z ab x.f1.f1] 31)).alloc (.cells #[Z ab 0,Z ab 0,Z ab 0,Z ab 0] 31)):=(ai (ai (Below.refl w.heap.size w) _) _)
 have dU:w.heap.size≤w.heap.size:=Nat.le_refl _
 generalize jq:((w.alloc (.cells #[Z ab x.f0.f0,Z ab x.f0.f1,Z ab x.f1.f0,Z ab x.f1.f1] 31)).alloc (.cells #[Z ab 0,Z ab 0,Z ab 0,Z ab 0] 31)) = W1 at mT m4 m6 mB ⊢
 clear jq
 generalize hg4:w.heap.size = g4 at m4 m6 ⊢
 have aoZ:b≠g4:=by omega
 have aBB:g4≠b:=aoZ.symm
 have hG4:w.heap.size≤g4:=by omega
 generalize Ye:g4+1 = g6 at m6 ⊢
 have zC:b≠g6:=by omega
 have um:g4≠g6:=by omega
 have PH:g6≠b:=zC.symm
 have TE:g6≠g4:=um.symm
 have RB:w.heap.size≤g6:=by omega
 clear dU mF
 try clear Ye
 try clear hg4
 have lC:w.heap.size≤W1.heap.size:=mB.size
 have cT6:W1.cell? ⟨b,6,none⟩ = some (Z ab s.most):=(ae mT 6).trans rfl
 have cT9:W1.cell? ⟨b,9,none⟩ = some (Z ab v.speed):=(ae mT 9).trans rfl
 have ao0:W1.cell? ⟨b,10,none⟩ = some (Z ab v.dive):=(ae mT 10).trans rfl
 have q1:wrap64 (v.speed+s.most) = v.speed+s.most:=by unfold wrap64;omega
 have q2:wrap64 ((v.speed+s.most)*v.dive) = (v.speed+s.most)*v.dive:=by unfold wrap64;omega
 have q3:wrap64 ((v.speed+s.most)*v.dive+999) = (v.speed+s.most)*v.dive+999:=by unfold wrap64;omega
 have q4:Int.tdiv ((v.speed+s.most)*v.dive+999) 1000 = ((v.speed+s.most)*v.dive+999) / 1000:=Int.tdiv_eq_ediv_of_nonneg (by omega)
 have hby:0≤((v.speed+s.most)*v.dive+999) / 1000∧((v.speed+s.most)*v.dive+999) / 1000≤2000000:=by omega
 go_quiet (fail)
 replace mT:=aA mT nq
 replace m4:=aA m4 nq
 replace m6:=aA m6 nq
 replace mB:=iW mB nq
 generalize hWq:World.drewN _ nq = W2 at mT m4 m6 mB ⊢
 clear hWq
 have mY:w.heap.size≤W2.heap.size:=mB.size
 clear cT6 cT9 ao0 q1 q2 q3 q4
 generalize ((v.speed+s.most)*v.dive+999) / 1000 = y at*
 clear p1
 generalize dE s v x = G at*
 subst hG
 dsimp only at kC
 obtain ⟨RD,akF,aBC,aBD⟩:=mH m4
 go_wp2_with fail
 clear RD akF aBC aBD
 have mF:=aD mT
 have PO:=aD m4
 have rz:=aD m6
 have m9:aZ (W2.alloc (.cells #[Z ab (x.f0.f0 - y),Z ab (x.f0.f1+y),Z ab (x.f1.f0 - y),Z ab (x.f1.f1+y)] 31)) (W2.heap.size) #[Z ab (x.f0.f0 - y),Z ab (x.f0.f1+y),Z ab (x.f1.f0 - y),Z ab (x.f1.f1+y)] 31:=(by have h_:=bB W2 (.cells #[Z ab (x.f0.f0 - y),Z ab (x.f0.f1+y),Z ab (x.f1.f0 - y),Z ab (x.f1.f1+y)] 31);first|exact h_|(simp only [World.size_alloc] at h_;exact h_))
 replace mT:aZ (W2.alloc (.cells #[Z ab (x.f0.f0 - y),Z ab (x.f0.f1+y),Z ab (x.f1.f0 - y),Z ab (x.f1.f1+y)] 31)) b #[Z ab s.nx,Z ab s.ny,Z ab s.cell,Z ab s.slot,Z ab s.slots,Z ab s.layers,Z ab s.most,.slice A7 s.shores.length c7,.slice A8 s.currents.length c8,Z ab v.speed,Z ab v.dive,Z ab v.use.f0,Z ab v.use.f1,Z ab v.drift.f0,Z ab v.drift.f1,Z ab v.reserve] 110:=(aa mT _)
 replace m4:aZ (W2.alloc (.cells #[Z ab (x.f0.f0 - y),Z ab (x.f0.f1+y),Z ab (x.f1.f0 - y),Z ab (x.f1.f1+y)] 31)) g4 #[Z ab x.f0.f0,Z ab x.f0.f1,Z ab x.f1.f0,Z ab x.f1.f1] 31:=(aa m4 _)
 replace m6:aZ (W2.alloc (.cells #[Z ab (x.f0.f0 - y),Z ab (x.f0.f1+y),Z ab (x.f1.f0 - y),Z ab (x.f1.f1+y)] 31)) g6 #[Z ab 0,Z ab 0,Z ab 0,Z ab 0] 31:=(aa m6 _)
 replace mB:Below w.heap.size w (W2.alloc (.cells #[Z ab (x.f0.f0 - y),Z ab (x.f0.f1+y),Z ab (x.f1.f0 - y),Z ab (x.f1.f1+y)] 31)):=(ai mB _)
 have dU:w.heap.size≤W2.heap.size:=mY
 generalize jq:(W2.alloc (.cells #[Z ab (x.f0.f0 - y),Z ab (x.f0.f1+y),Z ab (x.f1.f0 - y),Z ab (x.f1.f1+y)] 31)) = W3 at mT m4 m6 m9 mB ⊢
 clear jq
 generalize hg9:W2.heap.size = g9 at m9 ⊢
 have Ce:b≠g9:=by omega
 have ao1:g4≠g9:=by omega
 have PQ:g6≠g9:=by omega
 have TF:g9≠b:=Ce.symm
 have aBE:g9≠g4:=ao1.symm
 have agU:g9≠g6:=PQ.symm
 have hG9:w.heap.size≤g9:=by omega
 clear dU mF PO rz
 try clear hg9
 have uY:w.heap.size≤W3.heap.size:=mB.size
 have hcon:=kC W3 (hT.below mB)
 (with_reducible refine hcon.mono ?_)
 clear hcon
 rintro e W4 ⟨rfl,hb⟩
 replace mT:=af mT hb
 replace m4:=af m4 hb
 replace m6:=af m6 hb
 replace m9:=af m9 hb
 replace mB:=aJ mB hb
 clear hb
 have E5:w.heap.size≤W4.heap.size:=mB.size
 cases hc:ik s ⟨⟨x.f0.f0 - y,x.f0.f1+y⟩,⟨x.f1.f0 - y,x.f1.f1+y⟩⟩ with
 |false =>
  have HZ:Hid (eP s v x t = 5):=Lib.hid (by rw [HE.out,hc];rfl)
  clear HE
  have HV2:Hid (rC s v x t = z31):=Lib.hid (HV.out.trans jD)
  clear HV
  obtain ⟨zF,JM,JN,JO,aqX,aqY,aqZ,aq0⟩:=jr m6
  go_wp2
  exact bodyPost_ret (kZ rfl _ _ g6 31 #[Z ab 0,Z ab 0,Z ab 0,Z ab 0] (0,0) _ rfl (az (az (az (az m6 0 (Z ab 0) rfl) 1 (Z ab 0) rfl) 2 (Z ab 0) rfl) 3 (Z ab 0) rfl) Try.underlying31 rfl aT) rfl ⟨abq,(Below.setCell (p:=⟨g6,3,none⟩) (Below.setCell (p:=⟨g6,2,none⟩) (Below.setCell (p:=⟨g6,1,none⟩) (Below.setCell (p:=⟨g6,0,none⟩) mB RB _) RB _) RB _) RB _)⟩
 |true =>
  have HC:=Lib.hid hc
  clear hc
  have ao0:W4.cell? ⟨b,10,none⟩ = some (Z ab v.dive):=(ae mT 10).trans rfl
  go_wp2_with fail
  clear ao0
  have hcon:=kN W4 (hT.below mB)
  (with_reducible refine hcon.mono ?_)
  clear hcon
  rintro e W5 ⟨rfl,hb⟩
  replace mT:=af mT hb
  replace m4:=af m4 hb
  replace m6:=af m6 hb
  replace m9:=af m9 hb
  replace mB:=aJ mB hb
  clear hb
  have E8:w.heap.size≤W5.heap.size:=mB.size
  cases hk:rA s t (t+v.dive) with
  |false =>
   have HZ:Hid (eP s v x t = 5):=Lib.hid (by rw [HE.out,HC.out,hk];rfl)
   clear HE
   have HV2:Hid (rC s v x t = z31):=Lib.hid (HV.out.trans jD)
   clear HV
   obtain ⟨zF,JM,JN,JO,aqX,aqY,aqZ,aq0⟩:=jr m6
   go_wp2
   exact bodyPost_ret (kZ rfl _ _ g6 31 #[Z ab 0,Z ab 0,Z ab 0,Z ab 0] (0,0) _ rfl (az (az (az (az m6 0 (Z ab 0) rfl) 1 (Z ab 0) rfl) 2 (Z ab 0) rfl) 3 (Z ab 0) rfl) Try.underlying31 rfl aT) rfl ⟨abq,(Below.setCell (p:=⟨g6,3,none⟩) (Below.setCell (p:=⟨g6,2,none⟩) (Below.setCell (p:=⟨g6,1,none⟩) (Below.setCell (p:=⟨g6,0,none⟩) mB RB _) RB _) RB _) RB _)⟩
  |true =>
   have HZ:Hid (eP s v x t = 0):=Lib.hid (by rw [HE.out,HC.out,hk];rfl)
   clear HE hk
   have HV2:=Lib.hid (HV.out.trans (if_pos HZ.out))
   clear HV
   obtain ⟨zF,JM,JN,JO⟩:=mH m6
   obtain ⟨JS,JU,Yn,Yo⟩:=mH m9
   obtain ⟨aqX,aqY,aqZ,aq0⟩:=akE m6
   go_wp2
   exact bodyPost_ret (kZ rfl _ _ g6 31 #[Z ab (x.f0.f0 - y),Z ab (x.f0.f1+y),Z ab (x.f1.f0 - y),Z ab (x.f1.f1+y)] (0,0) _ rfl (az (az (az (az m6 0 (Z ab (x.f0.f0 - y)) rfl) 1 (Z ab (x.f0.f1+y)) rfl) 2 (Z ab (x.f1.f0 - y)) rfl) 3 (Z ab (x.f1.f1+y)) rfl) Try.underlying31 rfl aT) rfl ⟨abq,(Below.setCell (p:=⟨g6,3,none⟩) (Below.setCell (p:=⟨g6,2,none⟩) (Below.setCell (p:=⟨g6,1,none⟩) (Below.setCell (p:=⟨g6,0,none⟩) mB RB _) RB _) RB _) RB _)⟩
end Go.Proofs.Ytmhaiihjfgfaoaa.Gl
end
