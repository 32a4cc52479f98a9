import Derived.Test.YtmhaiihjfgfaoaaGfGliderFetch3
import Derived.Test.YtmhaiihjfgfaoaaGfGliderFetch12
import Derived.Test.YtmhaiihjfgfaoaaGfGliderFetch9
set_option linter.unusedVariables false
set_option linter.unusedSimpArgs false
open Go.Value renaming int → U
open Go.IntKind renaming i64 → Z
open Bool renaming true → ab, false → ac
section
namespace Go.Proofs.Ytmhaiihjfgfaoaa.Gl
open Go.RowKit Go.Shelf Go.Proofs.YtmhaiihjfgfaoaaW.PrintWords Go.Proofs.YtmhaiihjfgfaoaaW.PrintLast Go.Proofs.YtmhaiihjfgfaoaaW.PrintMore Go.Proofs.Ytmhaiihjfgfaoaa.Pr Go.Proofs.YtmhaiihjfgfaoaaW.Round
set_option linter.unusedVariables false
set_option linter.unusedSimpArgs false
attribute [local go_sem] gp gq iA iB gu
def BB (y:jf):Prop:=(-5000≤y.f0.f0∧y.f0.f0≤5000)∧(-5000≤y.f0.f1∧y.f0.f1≤5000)∧(-5000≤y.f1.f0∧y.f1.f0≤5000)∧(-5000≤y.f1.f1∧y.f1.f1≤5000)∧y.f0.f0≤y.f0.f1∧y.f1.f0≤y.f1.f1
theorem afu:∀ (l:List jf) (o:Option jf),(∀ z,o = some z→BB z)→(∀ y ∈ l,BB y)→∀ z,l.foldl aaR o = some z→BB z
 |[],o,h,_=>h
 |y :: l,o,h,hl=>by
  refine afu l _ (fun z hz=>?_) (fun q hq=>hl q (List.mem_cons_of_mem _ hq))
  have hy:=hl y List.mem_cons_self
  unfold aaR at hz
  cases o with
  |none=>cases hz;exact hy
  |some q =>
   cases hz
   have hq:=h q rfl
   unfold BB BO at*
   dsimp only
   omega
def ayv (s:oJ):Prop:=∀ c ∈ s.currents,(-5000≤c.f0.f0∧c.f0.f0≤5000)∧(-5000≤c.f0.f1∧c.f0.f1≤5000)∧(-5000≤c.f1.f0∧c.f1.f0≤5000)∧(-5000≤c.f1.f1∧c.f1.f1≤5000)∧c.f0.f0≤c.f0.f1∧c.f1.f0≤c.f1.f1
theorem al3 {s:oJ} (hc:ayv s) (x:jf) (layer t u:Int):BB (Q5 s x layer t u):=by
 unfold Q5
 have hz:BB z31:=by unfold BB z31 z27;decide
 cases h:wU (kg s x layer (t / s.slot) ((u - 1) / s.slot+1 - t / s.slot).toNat) with
 |none=>exact hz
 |some z =>
  refine afu _ none (fun z h=>by cases h) (fun y hy=>?_) z h
  obtain ⟨r,_,hy⟩:=List.mem_flatMap.1 hy
  obtain ⟨c,_,rfl⟩:=List.mem_map.1 hy
  unfold yZ
  generalize ((t / s.slot+(r:Int))*s.layers+layer)*(s.nx*s.ny)+c = i
  have:ay s.currents i ∈ s.currents∨ay s.currents i = z40:=by
   unfold ay
   rw [List.getD_eq_getElem?_getD]
   cases h2:s.currents[i.toNat]? with
   |none=>exact .inr rfl
   |some q=>exact .inl (List.mem_of_getElem? h2)
  rcases this with h2|h2
  ·exact hc _ h2
  ·rw [h2]
   unfold BB z40 z27
   decide
def fu (s:oJ) (v:tF) (x:jf):jf:=⟨⟨x.f0.f0 - ((v.speed+s.most)*v.dive+999) / 1000,x.f0.f1+((v.speed+s.most)*v.dive+999) / 1000⟩,⟨x.f1.f0 - ((v.speed+s.most)*v.dive+999) / 1000,x.f1.f1+((v.speed+s.most)*v.dive+999) / 1000⟩⟩
def oV (s:oJ) (v:tF) (x:jf) (t:Int):Int:=if (jm s (fu s v x) && vz s t (t+v.dive)) = true then 0 else 5
def GV (s:oJ) (v:tF) (x:jf) (t:Int):jf:=if oV s v x t = 0 then fu s v x else z31
def Jh (x:jf):Prop:=(-1099511627776≤x.f0.f0∧x.f0.f0≤1099511627776)∧(-1099511627776≤x.f0.f1∧x.f0.f1≤1099511627776)∧(-1099511627776≤x.f1.f0∧x.f1.f0≤1099511627776)∧(-1099511627776≤x.f1.f1∧x.f1.f1≤1099511627776)
set_option maxRecDepth 100000 in
set_option maxHeartbeats 4000000 in
theorem ajX (b:Nat) (s:oJ) (v:tF) (x:jf) (t:Int) (w:World) (hT:nX w b s v) (hS:BX s) (hV:Fy v) (hx:Jh x) (ht0:0≤t) (ht1:t≤1099511627776):
 Calls Try.prog 99 #[.pointer (some ⟨b,0,none⟩),.agg #[U Z x.f0.f0,U Z x.f0.f1,U Z x.f1.f0,U Z x.f1.f1],U Z t] w (zn (.tuple #[.agg #[U Z (GV s v x t).f0.f0,U Z (GV s v x t).f0.f1,U Z (GV s v x t).f1.f0,U Z (GV s v x t).f1.f1],U Z (oV s v x t)]) w):=by
 have rO:=Try.underlying31
 have pz:=Try.underlying27
 have hT0:=hT
 obtain ⟨A7,c7,A8,c8,mT,_⟩:=hT0
 have hm:=hS.most
 have hsp:=hV.speed
 have hdv:=hV.dive
 have p1:=iI (show 0≤v.speed+s.most by omega) (show v.speed+s.most≤10000 by omega) (show 0≤v.dive by omega) hdv.2
 have kC:=fun W (h:nX W b s v)=>WZ b s v (fu s v x) W h hS
 have kN:=fun W (h:nX W b s v)=>ajY b s v t (t+v.dive) W h hS
 have HE:Hid (oV s v x t = if (jm s (fu s v x) && vz s t (t+v.dive)) = true then 0 else 5):=Lib.hid rfl
 have HV:Hid (GV s v x t = if oV s v x t = 0 then fu s v x else z31):=Lib.hid rfl
 have hG:fu s v x = ⟨⟨x.f0.f0 - ((v.speed+s.most)*v.dive+999) / 1000,x.f0.f1+((v.speed+s.most)*v.dive+999) / 1000⟩,⟨x.f1.f0 - ((v.speed+s.most)*v.dive+999) / 1000,x.f1.f1+((v.speed+s.most)*v.dive+999) / 1000⟩⟩:=rfl
 obtain ⟨x0,x1,x2,x3⟩:=hx
 clear hS hV
 go_enter Try.func99,Try.ntmps99
 go_wp2_with fail
 have Jg:=eG mT
 have m4:jh ((w.alloc (.cells #[U Z x.f0.f0,U Z x.f0.f1,U Z x.f1.f0,U Z x.f1.f1] 31)).alloc (.cells #[U Z 0,U Z 0,U Z 0,U Z 0] 31)) (w.heap.size) #[U Z x.f0.f0,U Z x.f0.f1,U Z x.f1.f0,U Z x.f1.f1] 31:=(af al4 _)
 have m6:jh ((w.alloc (.cells #[U Z x.f0.f0,U Z x.f0.f1,U Z x.f1.f0,U Z x.f1.f1] 31)).alloc (.cells #[U Z 0,U Z 0,U Z 0,U Z 0] 31)) (w.heap.size+1) #[U Z 0,U Z 0,U Z 0,U Z 0] 31:=(by have h_:=gT (w.alloc (.cells #[U Z x.f0.f0,U Z x.f0.f1,U Z x.f1.f0,U Z x.f1.f1] 31)) (.cells #[U Z 0,U Z 0,U Z 0,U Z 0] 31);first|exact h_|(simp only [World.size_alloc] at h_;exact h_))
 replace mT:jh ((w.alloc (.cells #[U Z x.f0.f0,U Z x.f0.f1,U Z x.f1.f0,U Z x.f1.f1] 31)).alloc (.cells #[U Z 0,U Z 0,U Z 0,U Z 0] 31)) b #[U Z s.nx,U Z s.ny,U Z s.cell,U Z s.slot,U Z s.slots,U Z s.layers,U Z s.most,.slice A7 s.shores.length c7,.slice A8 s.currents.length c8,U Z v.speed,U Z v.dive,U Z v.use.f0,U Z v.use.f1,U Z v.drift.f0,U Z v.drift.f1,U Z v.reserve] 110:=(af (af mT _) _)
 have mB:Below w.heap.size w ((w.alloc (.cells #[U Z x.f0.f0,U Z x.f0.f1,U Z x.f1.f0,U Z x.f1.f1] 31)).alloc (.cells #[U Z 0,U Z 0,U Z 0,U Z 0] 31)):=(bA (bA (Below.refl w.heap.size w) _) _)
 have oI:w.heap.size≤w.heap.size:=Nat.le_refl _
 generalize yX:((w.alloc (.cells #[U Z x.f0.f0,U Z x.f0.f1,U Z x.f1.f0,U Z x.f1.f1] 31)).alloc (.cells #[U Z 0,U Z 0,U Z 0,U Z 0] 31)) = W1 at mT m4 m6 mB ⊢
 clear yX
 generalize hg4:w.heap.size = g4 at m4 m6 ⊢
 have ayw:b≠g4:=by omega
 have aWu:g4≠b:=ayw.symm
 have hG4:w.heap.size≤g4:=by omega
 generalize hg6:g4+1 = g6 at m6 ⊢
 have Pf:b≠g6:=by omega
 have adW:g4≠g6:=by omega
 have adP:g6≠b:=Pf.symm
 have ayx:g6≠g4:=adW.symm
 have hG6:w.heap.size≤g6:=by omega
 clear oI Jg
 try clear hg6
 try clear hg4
 have DR:w.heap.size≤W1.heap.size:=mB.size
 have cT6:W1.cell? ⟨b,6,none⟩ = some (U Z s.most):=(ah mT 6).trans rfl
 have cT9:W1.cell? ⟨b,9,none⟩ = some (U Z v.speed):=(ah mT 9).trans rfl
 have ayy:W1.cell? ⟨b,10,none⟩ = some (U Z v.dive):=(ah mT 10).trans rfl
 have q1:wrap64 (v.speed+s.most) = v.speed+s.most:=by unfold wrap64;omega
 have q2:wrap64 ((v.speed+s.most)*v.dive) = (v.speed+s.most)*v.dive:=by unfold wrap64;omega
 have q3:wrap64 ((v.speed+s.most)*v.dive+999) = (v.speed+s.most)*v.dive+999:=by unfold wrap64;omega
 have q4:Int.tdiv ((v.speed+s.most)*v.dive+999) 1000 = ((v.speed+s.most)*v.dive+999) / 1000:=Int.tdiv_eq_ediv_of_nonneg (by omega)
 have hby:0≤((v.speed+s.most)*v.dive+999) / 1000∧((v.speed+s.most)*v.dive+999) / 1000≤2000000:=by omega
 go_quiet (fail)
 replace mT:=av mT nq
 replace m4:=av m4 nq
 replace m6:=av m6 nq
 replace mB:=qy mB nq
 generalize hWq:World.drewN _ nq = W2 at mT m4 m6 mB ⊢
 clear hWq
 have Dl:w.heap.size≤W2.heap.size:=mB.size
 clear cT6 cT9 ayy q1 q2 q3 q4
 generalize ((v.speed+s.most)*v.dive+999) / 1000 = y at*
 clear p1
 generalize fu s v x = G at*
 subst hG
 dsimp only at kC
 obtain ⟨aqe,aqf,aWv,aWw⟩:=xy m4
 go_wp2_with fail
 clear aqe aqf aWv aWw
 have Jg:=eG mT
 have al5:=eG m4
 have WW:=eG m6
 have m9:jh (W2.alloc (.cells #[U Z (x.f0.f0 - y),U Z (x.f0.f1+y),U Z (x.f1.f0 - y),U Z (x.f1.f1+y)] 31)) (W2.heap.size) #[U Z (x.f0.f0 - y),U Z (x.f0.f1+y),U Z (x.f1.f0 - y),U Z (x.f1.f1+y)] 31:=(by have h_:=gT W2 (.cells #[U Z (x.f0.f0 - y),U Z (x.f0.f1+y),U Z (x.f1.f0 - y),U Z (x.f1.f1+y)] 31);first|exact h_|(simp only [World.size_alloc] at h_;exact h_))
 replace mT:jh (W2.alloc (.cells #[U Z (x.f0.f0 - y),U Z (x.f0.f1+y),U Z (x.f1.f0 - y),U Z (x.f1.f1+y)] 31)) b #[U Z s.nx,U Z s.ny,U Z s.cell,U Z s.slot,U Z s.slots,U Z s.layers,U Z s.most,.slice A7 s.shores.length c7,.slice A8 s.currents.length c8,U Z v.speed,U Z v.dive,U Z v.use.f0,U Z v.use.f1,U Z v.drift.f0,U Z v.drift.f1,U Z v.reserve] 110:=(af mT _)
 replace m4:jh (W2.alloc (.cells #[U Z (x.f0.f0 - y),U Z (x.f0.f1+y),U Z (x.f1.f0 - y),U Z (x.f1.f1+y)] 31)) g4 #[U Z x.f0.f0,U Z x.f0.f1,U Z x.f1.f0,U Z x.f1.f1] 31:=(af m4 _)
 replace m6:jh (W2.alloc (.cells #[U Z (x.f0.f0 - y),U Z (x.f0.f1+y),U Z (x.f1.f0 - y),U Z (x.f1.f1+y)] 31)) g6 #[U Z 0,U Z 0,U Z 0,U Z 0] 31:=(af m6 _)
 replace mB:Below w.heap.size w (W2.alloc (.cells #[U Z (x.f0.f0 - y),U Z (x.f0.f1+y),U Z (x.f1.f0 - y),U Z (x.f1.f1+y)] 31)):=(bA mB _)
 have oI:w.heap.size≤W2.heap.size:=Dl
 generalize yX:(W2.alloc (.cells #[U Z (x.f0.f0 - y),U Z (x.f0.f1+y),U Z (x.f1.f0 - y),U Z (x.f1.f1+y)] 31)) = W3 at mT m4 m6 m9 mB ⊢
 clear yX
 generalize hg9:W2.heap.size = g9 at m9 ⊢
 have TJ:b≠g9:=by omega
 have ayz:g4≠g9:=by omega
 have TV:g6≠g9:=by omega
 have alG:g9≠b:=TJ.symm
 have aWx:g9≠g4:=ayz.symm
 have al6:g9≠g6:=TV.symm
 have hG9:w.heap.size≤g9:=by omega
 clear oI Jg al5 WW
 try clear hg9
 have LA:w.heap.size≤W3.heap.size:=mB.size
 have hcon:=kC W3 (hT.below mB)
 (with_reducible refine hcon.mono ?_)
 clear hcon
 rintro e W4 ⟨rfl,hb⟩
 replace mT:=aU mT hb
 replace m4:=aU m4 hb
 replace m6:=aU m6 hb
 replace m9:=aU m9 hb
 replace mB:=dY mB hb
 clear hb
 have aaI:w.heap.size≤W4.heap.size:=mB.size
 cases hc:jm s ⟨⟨x.f0.f0 - y,x.f0.f1+y⟩,⟨x.f1.f0 - y,x.f1.f1+y⟩⟩ with
 |false =>
  have HZ:Hid (oV s v x t = 5):=Lib.hid (by rw [HE.out,hc];rfl)
  clear HE
  have HV2:Hid (GV s v x t = z31):=Lib.hid (HV.out.trans yY)
  clear HV
  obtain ⟨adS,adT,adU,adV,aBy,aBz,aBA,aBB⟩:=jc m6
  go_wp2
  exact bodyPost_ret (nW rfl _ _ g6 31 #[U Z 0,U Z 0,U Z 0,U Z 0] (0,0) _ rfl (aN (aN (aN (aN m6 0 (U Z 0) rfl) 1 (U Z 0) rfl) 2 (U Z 0) rfl) 3 (U Z 0) rfl) Try.underlying31 rfl aM) rfl ⟨adX,(Below.setCell (p:=⟨g6,3,none⟩) (Below.setCell (p:=⟨g6,2,none⟩) (Below.setCell (p:=⟨g6,1,none⟩) (Below.setCell (p:=⟨g6,0,none⟩) mB hG6 _) hG6 _) hG6 _) hG6 _)⟩
 |true =>
  have HC:=Lib.hid hc
  clear hc
  have ayy:W4.cell? ⟨b,10,none⟩ = some (U Z v.dive):=(ah mT 10).trans rfl
  go_wp2_with fail
  clear ayy
  have hcon:=kN W4 (hT.below mB)
  (with_reducible refine hcon.mono ?_)
  clear hcon
  rintro e W5 ⟨rfl,hb⟩
  replace mT:=aU mT hb
  replace m4:=aU m4 hb
  replace m6:=aU m6 hb
  replace m9:=aU m9 hb
  replace mB:=dY mB hb
  clear hb
  have afi:w.heap.size≤W5.heap.size:=mB.size
  cases hk:vz s t (t+v.dive) with
  |false =>
   have HZ:Hid (oV s v x t = 5):=Lib.hid (by rw [HE.out,HC.out,hk];rfl)
   clear HE
   have HV2:Hid (GV s v x t = z31):=Lib.hid (HV.out.trans yY)
   clear HV
   obtain ⟨adS,adT,adU,adV,aBy,aBz,aBA,aBB⟩:=jc m6
   go_wp2
   exact bodyPost_ret (nW rfl _ _ g6 31 #[U Z 0,U Z 0,U Z 0,U Z 0] (0,0) _ rfl (aN (aN (aN (aN m6 0 (U Z 0) rfl) 1 (U Z 0) rfl) 2 (U Z 0) rfl) 3 (U Z 0) rfl) Try.underlying31 rfl aM) rfl ⟨adX,(Below.setCell (p:=⟨g6,3,none⟩) (Below.setCell (p:=⟨g6,2,none⟩) (Below.setCell (p:=⟨g6,1,none⟩) (Below.setCell (p:=⟨g6,0,none⟩) mB hG6 _) hG6 _) hG6 _) hG6 _)⟩
  |true =>
   have HZ:Hid (oV s v x t = 0):=Lib.hid (by rw [HE.out,HC.out,hk];rfl)
   clear HE hk
   have HV2:=Lib.hid (HV.out.trans (if_pos HZ.out))
   clear HV
   obtain ⟨adS,adT,adU,adV⟩:=xy m6
   obtain ⟨WR,WS,aqg,aqh⟩:=xy m9
   obtain ⟨aBy,aBz,aBA,aBB⟩:=aqd m6
   go_wp2
   exact bodyPost_ret (nW rfl _ _ g6 31 #[U Z (x.f0.f0 - y),U Z (x.f0.f1+y),U Z (x.f1.f0 - y),U Z (x.f1.f1+y)] (0,0) _ rfl (aN (aN (aN (aN m6 0 (U Z (x.f0.f0 - y)) rfl) 1 (U Z (x.f0.f1+y)) rfl) 2 (U Z (x.f1.f0 - y)) rfl) 3 (U Z (x.f1.f1+y)) rfl) Try.underlying31 rfl aM) rfl ⟨adX,(Below.setCell (p:=⟨g6,3,none⟩) (Below.setCell (p:=⟨g6,2,none⟩) (Below.setCell (p:=⟨g6,1,none⟩) (Below.setCell (p:=⟨g6,0,none⟩) mB hG6 _) hG6 _) hG6 _) hG6 _)⟩
end Go.Proofs.Ytmhaiihjfgfaoaa.Gl
end
