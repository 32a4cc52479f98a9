import Derived.Test.YtmhaiihjfgfaoaaGzGliderReaches3
import Derived.Test.YtmhaiihjfgfaoaaGzGliderReaches10
open Go.Value renaming int → U
open Go.IntKind renaming i64 → Z
open Bool renaming true → ab, false → ac
section
namespace Go.Proofs.Ytmhaiihjfgfaoaa.Gl
open Go.RowKit Go.Shelf Go.Proofs.YtmhaiihjfgfaoaaW.PrintWords Go.Proofs.YtmhaiihjfgfaoaaW.PrintLast Go.Proofs.YtmhaiihjfgfaoaaW.PrintMore Go.Proofs.Ytmhaiihjfgfaoaa.Pr Go.Proofs.YtmhaiihjfgfaoaaW.Round
set_option linter.unusedVariables false
set_option linter.unusedSimpArgs false
attribute [local go_sem] eD eF fD fE eG
structure ER (s:j3):Prop where
 n:Dy s
 sh:(s.shores.length:Int) = s.nx*s.ny
 cu:(s.currents.length:Int) = s.slots*s.layers*(s.nx*s.ny)
 cb:auG s
def kG (x:dO):Prop:=EN x∧x.f0.f0≤x.f0.f1∧x.f1.f0≤x.f1.f1
theorem D7 {s:j3} {v:nz} {x:dO} {t:Int} (hS:Dy s) (hV:wO v) (hx:kG x) (h:ig s v x t = 0):Ty s (dQ s v x)∧(0≤t∧t+v.dive≤s.slots*s.slot)∧(0≤x.f0.f0∧x.f0.f1≤1000000)∧(0≤x.f1.f0∧x.f1.f1≤1000000):=by
 have hm:=hS.most
 have hsp:=hV.speed
 have hdv:=hV.dive
 have p1:=iF (show 0≤v.speed+s.most by omega) (show v.speed+s.most≤10000 by omega) (show 0≤v.dive by omega) hdv.2
 have p2:=iF (show 0≤s.nx by have:=hS.nx;omega) hS.nx.2 (show 0≤s.cell by have:=hS.cell;omega) hS.cell.2
 have p3:=iF (show 0≤s.ny by have:=hS.ny;omega) hS.ny.2 (show 0≤s.cell by have:=hS.cell;omega) hS.cell.2
 obtain ⟨⟨x0,x1,x2,x3⟩,x4,x5⟩:=hx
 unfold ig at h
 have hc:iI s (dQ s v x) = true∧sJ s t (t+v.dive) = true:=by
  by_cases hb:(iI s (dQ s v x) && sJ s t (t+v.dive)) = true
  ·exact Bool.and_eq_true_iff.1 hb
  ·rw [if_neg hb] at h
   cases h
 obtain ⟨h1,h2⟩:=hc
 unfold iI dQ at h1
 unfold sJ at h2
 simp only [Bool.and_eq_true,decide_eq_true_eq] at h1 h2
 unfold Ty dQ
 dsimp only
 omega
def K9 (s:j3) (v:nz) (x:dO) (t:Int):Int:=if ig s v x t≠0 then ig s v x t else Hd s (dQ s v x)
def GM (s:j3) (v:nz) (x:dO) (t hd layer:Int):dO:=if K9 s v x t = 0 then kP s v x (dQ s v x) t hd layer else z31
theorem ahd (s:j3) (x:dO):Hd s x = 0∨Hd s x = 21:=by
 unfold Hd
 split
 ·exact .inr rfl
 ·exact .inl rfl
set_option maxRecDepth 100000 in
set_option maxHeartbeats 8000000 in
theorem ahe (b:Nat) (s:j3) (v:nz) (x:dO) (t hd layer:Int) (w:World) (hT:jo w b s v) (hS:ER s) (hV:wO v) (hx:kG x) (ht0:0≤t) (ht1:t≤1099511627776) (hh0:0≤hd) (hh1:hd≤8) (hl0:0≤layer) (hl1:layer < s.layers):
 Calls Try.prog 66 #[.pointer (some ⟨b,0,none⟩),.agg #[U Z x.f0.f0,U Z x.f0.f1,U Z x.f1.f0,U Z x.f1.f1],U Z t,.agg #[U Z hd,U Z layer]] w (sI (.tuple #[.agg #[U Z (GM s v x t hd layer).f0.f0,U Z (GM s v x t hd layer).f0.f1,U Z (GM s v x t hd layer).f1.f0,U Z (GM s v x t hd layer).f1.f1],U Z (K9 s v x t)]) w):=by
 have oP:=Try.underlying31
 have oo:=Try.underlying27
 have SH:=Try.underlying33
 have kR:=fun W (h:jo W b s v)=>Ny b s v x t W h hS.n hV hx.1 ht0 ht1
 have hok:=D7 (t:=t) hS.n hV hx
 have HE:Hid (K9 s v x t = if ig s v x t≠0 then ig s v x t else Hd s (dQ s v x)):=Lib.hid rfl
 have HV:Hid (GM s v x t hd layer = if K9 s v x t = 0 then kP s v x (dQ s v x) t hd layer else z31):=Lib.hid rfl
 have HRV:Hid (wS s v x t = if ig s v x t = 0 then dQ s v x else z31):=Lib.hid rfl
 go_enter Try.func66,Try.ntmps66
 go_wp2_with fail
 have m5:eT (((w.alloc (.cells #[U Z x.f0.f0,U Z x.f0.f1,U Z x.f1.f0,U Z x.f1.f1] 31)).alloc (.cells #[U Z hd,U Z layer] 33)).alloc (.cells #[U Z 0,U Z 0,U Z 0,U Z 0] 31)) (w.heap.size) #[U Z x.f0.f0,U Z x.f0.f1,U Z x.f1.f0,U Z x.f1.f1] 31:=(ae (ae ag9 _) _)
 have m7:eT (((w.alloc (.cells #[U Z x.f0.f0,U Z x.f0.f1,U Z x.f1.f0,U Z x.f1.f1] 31)).alloc (.cells #[U Z hd,U Z layer] 33)).alloc (.cells #[U Z 0,U Z 0,U Z 0,U Z 0] 31)) (w.heap.size+1) #[U Z hd,U Z layer] 33:=(ae (by have h_:=eP (w.alloc (.cells #[U Z x.f0.f0,U Z x.f0.f1,U Z x.f1.f0,U Z x.f1.f1] 31)) (.cells #[U Z hd,U Z layer] 33);first|exact h_|(simp only [World.size_alloc] at h_;exact h_)) _)
 have m8:eT (((w.alloc (.cells #[U Z x.f0.f0,U Z x.f0.f1,U Z x.f1.f0,U Z x.f1.f1] 31)).alloc (.cells #[U Z hd,U Z layer] 33)).alloc (.cells #[U Z 0,U Z 0,U Z 0,U Z 0] 31)) (w.heap.size+1+1) #[U Z 0,U Z 0,U Z 0,U Z 0] 31:=(by have h_:=eP ((w.alloc (.cells #[U Z x.f0.f0,U Z x.f0.f1,U Z x.f1.f0,U Z x.f1.f1] 31)).alloc (.cells #[U Z hd,U Z layer] 33)) (.cells #[U Z 0,U Z 0,U Z 0,U Z 0] 31);first|exact h_|(simp only [World.size_alloc] at h_;exact h_))
 have mB:Below w.heap.size w (((w.alloc (.cells #[U Z x.f0.f0,U Z x.f0.f1,U Z x.f1.f0,U Z x.f1.f1] 31)).alloc (.cells #[U Z hd,U Z layer] 33)).alloc (.cells #[U Z 0,U Z 0,U Z 0,U Z 0] 31)):=(aT (aT (aT (Below.refl w.heap.size w) _) _) _)
 have jS:w.heap.size≤w.heap.size:=Nat.le_refl _
 generalize qL:(((w.alloc (.cells #[U Z x.f0.f0,U Z x.f0.f1,U Z x.f1.f0,U Z x.f1.f1] 31)).alloc (.cells #[U Z hd,U Z layer] 33)).alloc (.cells #[U Z 0,U Z 0,U Z 0,U Z 0] 31)) = W1 at m5 m7 m8 mB ⊢
 clear qL
 generalize hg5:w.heap.size = g5 at m5 m7 m8 ⊢
 have hG5:w.heap.size≤g5:=by omega
 generalize hg7:g5+1 = g7 at m7 m8 ⊢
 have DC:g5≠g7:=by omega
 have Ri:g7≠g5:=DC.symm
 have hG7:w.heap.size≤g7:=by omega
 generalize hg8:g7+1 = g8 at m8 ⊢
 have Nz:g5≠g8:=by omega
 have zP:g7≠g8:=by omega
 have ZL:g8≠g5:=Nz.symm
 have nC:g8≠g7:=zP.symm
 have Xv:w.heap.size≤g8:=by omega
 clear jS
 try clear hg8
 try clear hg7
 try clear hg5
 have wG:w.heap.size≤W1.heap.size:=mB.size
 have hcon:=kR W1 (hT.below mB)
 (with_reducible refine hcon.mono ?_)
 clear hcon
 rintro e W2 ⟨rfl,hb⟩
 replace m5:=av m5 hb
 replace m7:=av m7 hb
 replace m8:=av m8 hb
 replace mB:=bO mB hb
 clear hb
 have sO:w.heap.size≤W2.heap.size:=mB.size
 clear kR
 by_cases hr:ig s v x t = 0
 case neg =>
  have HZ:Hid (K9 s v x t = ig s v x t):=Lib.hid (HE.out.trans (if_pos hr))
  try clear HE
  have HV2:Hid (GM s v x t hd layer = z31):=Lib.hid (HV.out.trans (if_neg (by rw [HZ.out];exact hr)))
  clear HV hok
  generalize ig s v x t = E at*
  generalize wS s v x t = V at*
  have hz:(E == 0) = false:=beq_eq_false_iff_ne.2 hr
  have hz2:(E != 0) = true:=by rw [bne,hz];rfl
  clear hr HRV
  have aTz:∀ o_,(W2.alloc o_).cell? ⟨g8,0,none⟩ = some (U Z 0):=fun o_=>(af (ae m8 o_) 0).trans rfl
  have aTA:∀ o_,(W2.alloc o_).frozen? ⟨g8,0,none⟩ = false:=fun o_=>bn (ae m8 o_) 0
  have aTB:∀ o_,(W2.alloc o_).cell? ⟨g8,1,none⟩ = some (U Z 0):=fun o_=>(af (ae m8 o_) 1).trans rfl
  have aTC:∀ o_,(W2.alloc o_).frozen? ⟨g8,1,none⟩ = false:=fun o_=>bn (ae m8 o_) 1
  have aTD:∀ o_,(W2.alloc o_).cell? ⟨g8,2,none⟩ = some (U Z 0):=fun o_=>(af (ae m8 o_) 2).trans rfl
  have aTE:∀ o_,(W2.alloc o_).frozen? ⟨g8,2,none⟩ = false:=fun o_=>bn (ae m8 o_) 2
  have aTF:∀ o_,(W2.alloc o_).cell? ⟨g8,3,none⟩ = some (U Z 0):=fun o_=>(af (ae m8 o_) 3).trans rfl
  have aTG:∀ o_,(W2.alloc o_).frozen? ⟨g8,3,none⟩ = false:=fun o_=>bn (ae m8 o_) 3
  go_wp2
  exact bodyPost_ret (oN rfl _ _ g8 31 #[U Z 0,U Z 0,U Z 0,U Z 0] (0,0) _ rfl (aI (aI (aI (aI (ae m8 _) 0 (U Z 0) rfl) 1 (U Z 0) rfl) 2 (U Z 0) rfl) 3 (U Z 0) rfl) Try.underlying31 rfl aY) rfl ⟨ZM,(Below.setCell (p:=⟨g8,3,none⟩) (Below.setCell (p:=⟨g8,2,none⟩) (Below.setCell (p:=⟨g8,1,none⟩) (Below.setCell (p:=⟨g8,0,none⟩) (aT mB _) Xv _) Xv _) Xv _) Xv _)⟩
 case pos =>
  obtain ⟨hG,⟨hk0,hk1⟩,_⟩:=hok hr
  clear hok
  have HE2:=Lib.hid (HE.out.trans (if_neg (fun h=>h hr)))
  clear HE
  have axi:=Lib.hid (HRV.out.trans (if_pos hr))
  clear HRV
  rw [hr,axi.out]
  clear hr axi
  have kS:=fun W (h:jo W b s v)=>ahg b s v (dQ s v x) W h hS.n hG hS.sh
  have kD:=fun W (h:jo W b s v)=>Ra b s v x (dQ s v x) t hd layer W h hS.n hV hS.cu hS.cb hx.1 hG hk0 hk1 hh0 hh1 hl0 hl1
  clear hS hV hx hG hk0 hk1 hh0 hh1 hl0 hl1
  have hsf:=ahd s (dQ s v x)
  generalize kP s v x (dQ s v x) t hd layer = Y at*
  generalize dQ s v x = G at*
  generalize Hd s G = F at*
  go_wp2_with fail
  have Bo:=bP m5
  have He:=bP m7
  have Kt:=bP m8
  have m10:eT (W2.alloc (.cells #[U Z G.f0.f0,U Z G.f0.f1,U Z G.f1.f0,U Z G.f1.f1] 31)) (W2.heap.size) #[U Z G.f0.f0,U Z G.f0.f1,U Z G.f1.f0,U Z G.f1.f1] 31:=axj
  replace m5:eT (W2.alloc (.cells #[U Z G.f0.f0,U Z G.f0.f1,U Z G.f1.f0,U Z G.f1.f1] 31)) g5 #[U Z x.f0.f0,U Z x.f0.f1,U Z x.f1.f0,U Z x.f1.f1] 31:=(ae m5 _)
  replace m7:eT (W2.alloc (.cells #[U Z G.f0.f0,U Z G.f0.f1,U Z G.f1.f0,U Z G.f1.f1] 31)) g7 #[U Z hd,U Z layer] 33:=(ae m7 _)
  replace m8:eT (W2.alloc (.cells #[U Z G.f0.f0,U Z G.f0.f1,U Z G.f1.f0,U Z G.f1.f1] 31)) g8 #[U Z 0,U Z 0,U Z 0,U Z 0] 31:=(ae m8 _)
  replace mB:Below w.heap.size w (W2.alloc (.cells #[U Z G.f0.f0,U Z G.f0.f1,U Z G.f1.f0,U Z G.f1.f1] 31)):=(aT mB _)
  have jS:w.heap.size≤W2.heap.size:=sO
  generalize qL:(W2.alloc (.cells #[U Z G.f0.f0,U Z G.f0.f1,U Z G.f1.f0,U Z G.f1.f1] 31)) = W3 at m5 m7 m8 m10 mB ⊢
  clear qL
  generalize UD:W2.heap.size = g10 at m10 ⊢
  have oq:g5≠g10:=by omega
  have EP:g7≠g10:=by omega
  have UG:g8≠g10:=by omega
  have UH:g10≠g5:=oq.symm
  have UF:g10≠g7:=EP.symm
  have akB:g10≠g8:=UG.symm
  have pz:w.heap.size≤g10:=by omega
  clear jS Bo He Kt
  try clear UD
  have Ha:w.heap.size≤W3.heap.size:=mB.size
  have hcon:=kS W3 (hT.below mB)
  (with_reducible refine hcon.mono ?_)
  clear hcon
  rintro e W4 ⟨rfl,hb⟩
  replace m5:=av m5 hb
  replace m7:=av m7 hb
  replace m8:=av m8 hb
  replace m10:=av m10 hb
  replace mB:=bO mB hb
  clear hb
  have O3:w.heap.size≤W4.heap.size:=mB.size
  clear kS
  rcases hsf with rfl|rfl
  case inr =>
   have HZ:Hid (K9 s v x t = 21):=Lib.hid (HE2.out)
   try clear HE
   have HV2:Hid (GM s v x t hd layer = z31):=Lib.hid (HV.out.trans (if_neg (by rw [HZ.out];decide)))
   clear HV
   obtain ⟨PL,afc,ahh,ahi,axk,axl,aNO,aNP⟩:=gD m8
   go_wp2
   exact bodyPost_ret (oN rfl _ _ g8 31 #[U Z 0,U Z 0,U Z 0,U Z 0] (0,0) _ rfl (aI (aI (aI (aI m8 0 (U Z 0) rfl) 1 (U Z 0) rfl) 2 (U Z 0) rfl) 3 (U Z 0) rfl) Try.underlying31 rfl aY) rfl ⟨ZM,(Below.setCell (p:=⟨g8,3,none⟩) (Below.setCell (p:=⟨g8,2,none⟩) (Below.setCell (p:=⟨g8,1,none⟩) (Below.setCell (p:=⟨g8,0,none⟩) mB Xv _) Xv _) Xv _) Xv _)⟩
  case inl =>
   have HV2:=Lib.hid (HV.out.trans (if_pos HE2.out))
   clear HV
   obtain ⟨D8,ES,NA,NB⟩:=nV m5
   obtain ⟨Hf,Hg⟩:=J9 m7
   obtain ⟨Bp,Bq,Br,Bt⟩:=nV m10
   go_wp2_with fail
   clear D8 ES NA NB Hf Hg Bp Bq Br Bt
   have hcon:=kD W4 (hT.below mB)
   (with_reducible refine hcon.mono ?_)
   clear hcon
   rintro e W5 ⟨rfl,hb⟩
   replace m5:=av m5 hb
   replace m7:=av m7 hb
   replace m8:=av m8 hb
   replace m10:=av m10 hb
   replace mB:=bO mB hb
   clear hb
   have Rj:w.heap.size≤W5.heap.size:=mB.size
   clear kD
   obtain ⟨PL,afc,ahh,ahi,axk,axl,aNO,aNP⟩:=gD m8
   go_wp2
   exact bodyPost_ret (oN rfl _ _ g8 31 #[U Z Y.f0.f0,U Z Y.f0.f1,U Z Y.f1.f0,U Z Y.f1.f1] (0,0) _ rfl (aI (aI (aI (aI m8 0 (U Z Y.f0.f0) rfl) 1 (U Z Y.f0.f1) rfl) 2 (U Z Y.f1.f0) rfl) 3 (U Z Y.f1.f1) rfl) Try.underlying31 rfl aY) rfl ⟨by rw [HV2.out,HE2.out];rfl,(Below.setCell (p:=⟨g8,3,none⟩) (Below.setCell (p:=⟨g8,2,none⟩) (Below.setCell (p:=⟨g8,1,none⟩) (Below.setCell (p:=⟨g8,0,none⟩) mB Xv _) Xv _) Xv _) Xv _)⟩
end Go.Proofs.Ytmhaiihjfgfaoaa.Gl
end
section
namespace Go.Proofs.Ytmhaiihjfgfaoaa.Pr
open Go.RowKit Go.Proofs.YtmhaiihjfgfaoaaW.PrintWords Go.Proofs.YtmhaiihjfgfaoaaW.PrintLast Go.Proofs.YtmhaiihjfgfaoaaW.PrintMore
attribute [local go_sem] eD eF fD fE eG
set_option linter.unusedVariables false
set_option linter.unusedSimpArgs false
def dN.f (a0:Int):Option (Int):=some (mx a0 (wrap64 (-a0)))
set_option maxHeartbeats 8000000 in
set_option maxRecDepth 100000 in
theorem dN.calls (a0:Int) (r:Int) (w:World) (h:dN.f a0 = some r):
 Calls Try.prog 117 #[U Z a0] w fun e w'=>e = .returned (U Z r)∧Below w.heap.size w w':=by
 have HB:=aa.mk (Below.refl w.heap.size w)
 have H:(some (mx a0 (wrap64 (-a0)))) = some r:=h
 clear h
 obtain ⟨ji2,akC⟩:∃ j_:Int,(mx a0 (wrap64 (-a0))) = j_:=⟨_,rfl⟩
 replace H:(some ji2) = some r:=by first|(rw [akC] at H;exact H)|(simp only [akC] at H ⊢;exact H)
 have aP9:(if a0 < (wrap64 (-a0)) then (wrap64 (-a0)) else a0) = ji2:=akC
 obtain rfl:=Option.some.inj H
 go_enter Try.func117,Try.ntmps117
 go_wp2
 go_ret
 exact ⟨by first|rfl|(simp [jD,jE] <;> rfl)|(simp only [← akC];first|rfl|(simp [jD,jE] <;> rfl))|(simp [*,jD,jE] <;> rfl),fu⟩
def dR.f (k:Nat) (ah:Int) (ai:Int) (ax:Int) (ay:Int):Option (Int):=(dB.f k (([(⟨ah,ai⟩:lu),(⟨ax,ay⟩:lu)]:List (lu)))).bind fun t148=>(if t148 = 0 then ((dN.f ah).bind fun t149=>((dN.f ai).bind fun t150=>((dN.f ax).bind fun t151=>((dN.f ay).bind fun t152=>(if (mx (mx (mx t149 t150) t151) t152) > 268435456 then (some 2) else (some 0)))))) else (some t148))
def dR.T4:Bool × List (List Nat × List Nat):=(true,[([],[]),([0],[0]),([1],[1]),([2],[2]),([],[]),([4],[4]),([5],[5]),([6,3],[6]),([],[]),([8],[8]),([9],[9]),([10,7],[10]),([],[]),([12],[12]),([13],[13]),([14,11],[14]),([3,7,11,15],[3,7,11,15]),([16],[16])])
def dR.B4:List Nat:=[0,1,3,7,0,16,48,127,0,256,768,2047,0,4096,12288,32767,65535,131071]
theorem dR.axm:qX .any (opsOf Try.f67 4) = dR.T4:=by kernel_rfl
theorem dR.ast:ou dR.T4.2 dR.B4 = true:=by kernel_rfl
set_option maxHeartbeats 8000000 in
set_option maxRecDepth 100000 in
theorem dR.calls (k:Nat) (ah:Int) (ai:Int) (ax:Int) (ay:Int) (r:Int) (w:World) (h:dR.f k ah ai ax ay = some r):
 Calls Try.prog 67 #[.agg #[U Z ah,U Z ai,U Z ax,U Z ay]] w fun e w'=>e = .returned (U Z r)∧Below w.heap.size w w':=by
 have oP:=Try.underlying31
 have oo:=Try.underlying27
 have HB:=aa.mk (Below.refl w.heap.size w)
 have H:((dB.f k (([(⟨ah,ai⟩:lu),(⟨ax,ay⟩:lu)]:List (lu)))).bind fun t148=>(if t148 = 0 then ((dN.f ah).bind fun t149=>((dN.f ai).bind fun t150=>((dN.f ax).bind fun t151=>((dN.f ay).bind fun t152=>(if (mx (mx (mx t149 t150) t151) t152) > 268435456 then (some 2) else (some 0)))))) else (some t148))) = some r:=h
 clear h
 obtain ⟨ZN,XD⟩:∃ y_:List (lu),y_ = (([(⟨ah,ai⟩:lu),(⟨ax,ay⟩:lu)]:List (lu))):=⟨_,rfl⟩
 replace H:((dB.f k ZN).bind fun t148=>(if t148 = 0 then ((dN.f ah).bind fun t149=>((dN.f ai).bind fun t150=>((dN.f ax).bind fun t151=>((dN.f ay).bind fun t152=>(if (mx (mx (mx t149 t150) t151) t152) > 268435456 then (some 2) else (some 0)))))) else (some t148))) = some r:=by first|(rw [XD];with_reducible exact H)|(have Ku:=(Option.bind_some _ _).symm.trans H;rw [XD];with_reducible exact Ku)|(have Ku:=(Option.bind_some _ _).symm.trans H;with_reducible exact Ku)|with_reducible exact H|(rw [XD];exact H)|exact H
 have TB:=aa.mk XD
 clear XD
 replace H:=Option.bind_eq_some_iff.mp H
 obtain ⟨t148,TC,H⟩:=H
 replace H:(if t148 = 0 then ((dN.f ah).bind fun t149=>((dN.f ai).bind fun t150=>((dN.f ax).bind fun t151=>((dN.f ay).bind fun t152=>(if (mx (mx (mx t149 t150) t151) t152) > 268435456 then (some 2) else (some 0)))))) else (some t148)) = some r:=H
 have A2:=aa.mk TC
 clear TC
 by_cases c3:t148 = 0
 ·rw [if_pos c3] at H
  have D9:(t148 == 0) = true:=beq_iff_eq.mpr c3
  have SI:(t148 != 0) = false:=bne_eq_false_iff_eq.mpr c3
  clear c3
  replace H:=Option.bind_eq_some_iff.mp H
  obtain ⟨t149,Kv,H⟩:=H
  replace H:((dN.f ai).bind fun t150=>((dN.f ax).bind fun t151=>((dN.f ay).bind fun t152=>(if (mx (mx (mx t149 t150) t151) t152) > 268435456 then (some 2) else (some 0))))) = some r:=H
  have A4:=aa.mk Kv
  clear Kv
  replace H:=Option.bind_eq_some_iff.mp H
  obtain ⟨t150,O4,H⟩:=H
  replace H:((dN.f ax).bind fun t151=>((dN.f ay).bind fun t152=>(if (mx (mx (mx t149 t150) t151) t152) > 268435456 then (some 2) else (some 0)))) = some r:=H
  have A5:=aa.mk O4
  clear O4
  replace H:=Option.bind_eq_some_iff.mp H
  obtain ⟨t151,La,H⟩:=H
  replace H:((dN.f ay).bind fun t152=>(if (mx (mx (mx t149 t150) t151) t152) > 268435456 then (some 2) else (some 0))) = some r:=H
  have A6:=aa.mk La
  clear La
  replace H:=Option.bind_eq_some_iff.mp H
  obtain ⟨t152,A70,H⟩:=H
  replace H:(if (mx (mx (mx t149 t150) t151) t152) > 268435456 then (some 2) else (some 0)) = some r:=H
  have A7:=aa.mk A70
  clear A70
  obtain ⟨ji8,UI⟩:∃ j_:Int,(mx t149 t150) = j_:=⟨_,rfl⟩
  replace H:(if (mx (mx (ji8) t151) t152) > 268435456 then (some 2) else (some 0)) = some r:=by first|(rw [UI] at H;exact H)|(simp only [UI] at H ⊢;exact H)
  (try rw [UI] at A2)
  (try rw [UI] at A4)
  (try rw [UI] at A5)
  (try rw [UI] at A6)
  (try rw [UI] at A7)
  have aQa:(if t149 < t150 then t150 else t149) = ji8:=UI
  obtain ⟨ji9,UJ⟩:∃ j_:Int,(mx (ji8) t151) = j_:=⟨_,rfl⟩
  replace H:(if (mx (ji9) t152) > 268435456 then (some 2) else (some 0)) = some r:=by first|(rw [UJ] at H;exact H)|(simp only [UJ] at H ⊢;exact H)
  (try rw [UJ] at A2)
  (try rw [UJ] at A4)
  (try rw [UJ] at A5)
  (try rw [UJ] at A6)
  (try rw [UJ] at A7)
  have aQb:(if (ji8) < t151 then t151 else (ji8)) = ji9:=UJ
  obtain ⟨ahj,Lb⟩:∃ j_:Int,(mx (ji9) t152) = j_:=⟨_,rfl⟩
  replace H:(if (ahj) > 268435456 then (some 2) else (some 0)) = some r:=by first|(rw [Lb] at H;exact H)|(simp only [Lb] at H ⊢;exact H)
  (try rw [Lb] at A2)
  (try rw [Lb] at A4)
  (try rw [Lb] at A5)
  (try rw [Lb] at A6)
  (try rw [Lb] at A7)
  have aNQ:(if (ji9) < t152 then t152 else (ji9)) = ahj:=Lb
  by_cases c11:(ahj) > 268435456
  ·rw [if_pos c11] at H
   have GN:decide (268435456 < (ahj)) = true:=decide_eq_true c11
   clear c11
   obtain rfl:=Option.some.inj H
   go_enter Try.func67,Try.ntmps67
   try go_wp2_with (first|((with_reducible refine aG (N:=1) rfl ?_);refine az (by rfl) (N:=1) (by rfl) (cs:=#[U Z ah,U Z ai,U Z ax,U Z ay]) (t:=31) fM ?_;intro Kh hg Nv hbox hb;have jv:=aa.mk (hbox);have asv:=dn HB hg;have asw:=dn HB hg;replace HB:=dw HB hb;clear hb hbox hg;obtain ⟨qY,qZ,xW,xX,q9,rf,xY,xZ⟩:=gD jv.out)|((with_reducible refine aG (N:=8) rfl ?_);refine Kd.Bn k27 _ 27 (by rfl) (N:=8) (by rfl) (xs:=([(⟨ah,ai⟩:lu),(⟨ax,ay⟩:lu)]:List (lu))) (inner:=[U Z ah,U Z ai,U Z ax,U Z ay]) (ok:=fun _=>True) (okp:=fun _=>True) fM auM (fun _ hk=>hk) trivial (Below.refl _ _) (Nat.le_refl _) (by simp) ?_;intro v146 w14 ahk hb Lc ow;clear Lc ow;(first|rw [← TB.out] at ahk|(simp only [Int.reduceToNat] at ahk;rw [← TB.out] at ahk));have kT:=aa.mk (Kd.jH ahk (fJ fu));replace jv:=bC jv hb;replace HB:=dw HB hb;clear hb ahk;obtain ⟨aNR,aNS,aNT⟩:=Kd.jI kT.out;subst aNT)|((with_reducible refine aN (f:=116) rfl ?_);refine bT (some 9) rfl rfl Try.func116 aY rfl #[.slice aNR ZN.length aNS] rfl iG ?_;(with_reducible refine (dB.calls k _ _ ZN t148 _ ?df ?dh A2.out).mono ?_);(case df=>repeat (first|exact (Kd.fo kT.out).2.2|(with_reducible refine Kd.bA ?_ _)|(with_reducible refine Kd.bB ?_ _)|(with_reducible refine Kd.bQ ?_)));(case dh=>exact (Kd.fo kT.out).2.1);rintro e w17 ⟨rfl,hb⟩;refine ⟨_,rfl,?_⟩;replace kT:=uW kT hb;replace jv:=bC jv hb;replace HB:=dw HB hb;(try clear hb);(try clear hb2);(try clear hk);(try clear hi)))
   replace kT:=aa.mk (Kd.iE kT.out)
   replace jv:=aa.mk (ag jv.out)
   replace HB:=aa.mk (bU HB.out)
   refine jT (n:=18) (S:=fun w'=>w'.cell? ⟨Kh,0,none⟩ = some (U Z ah)∧w'.cell? ⟨Kh,1,none⟩ = some (U Z ai)∧w'.cell? ⟨Kh,2,none⟩ = some (U Z ax)∧w'.cell? ⟨Kh,3,none⟩ = some (U Z ay)) (ds:=[]) #[ac,ac,ac,ac,ac,ac,ac,ac,ac,ac,ac,ac,ac,ac,ac,ac,ac,ac] aY rfl rfl (nV jv.out) (fun hHeld=>?_);refine jg dR.axm dR.ast (fun cO lS=>?_)
   generalize w17.drew = w18 at kT jv HB hHeld ⊢
   refine dW (i:=0) (N:=some 13) (aU cO.out aY) ?_
   refine dW (i:=1) (N:=some 14) (aU cO.out aY) ?_
   refine dW (i:=4) (N:=some 17) (aU cO.out aY) ?_
   refine dW (i:=5) (N:=some 18) (aU cO.out aY) ?_
   refine dW (i:=8) (N:=some 21) (aU cO.out aY) ?_
   refine dW (i:=9) (N:=some 22) (aU cO.out aY) ?_
   refine dW (i:=12) (N:=some 25) (aU cO.out aY) ?_
   refine dW (i:=13) (N:=some 26) (aU cO.out aY) ?_
   refine ja (i:=2) (N:=some 15) (bS cO.out lS.out aY) hHeld ?_
   refine ja (i:=6) (N:=some 19) (bS cO.out lS.out aY) hHeld ?_
   refine ja (i:=10) (N:=some 23) (bS cO.out lS.out aY) hHeld ?_
   refine ja (i:=14) (N:=some 27) (bS cO.out lS.out aY) hHeld ?_
   refine jJ (i:=3) (N:=some 16) #[ab,ab,ab,ab,ab,ab,ab,ac,ab,ab,ab,ac,ab,ab,ab,ac,ac,ac] rfl rfl (gM cO.out aY) (by decide) (fun K hK=>?_)
   refine gQ Try.func117 aY rfl #[U Z ah] (by rfl) rfl rfl iG ?_
   with_reducible refine (dN.calls ah t149 _ A4.out).mono ?_
   rintro e w19 ⟨rfl,hb⟩
   refine ⟨_,rfl,?_⟩
   replace kT:=uW kT hb
   replace jv:=bC jv hb
   replace HB:=dw HB hb
   (try clear hb)
   (try clear hb2)
   (try clear hk)
   (try clear hi)
   refine hK.out _ _ (nV jv.out) (fun hHeld=>?_)
   clear hK K
   refine eY afe ?_
   refine jJ (i:=7) (N:=some 20) #[ab,ab,ab,ab,ab,ab,ab,ab,ab,ab,ab,ac,ab,ab,ab,ac,ac,ac] rfl rfl (gM cO.out aY) (by decide) (fun K hK=>?_)
   refine gQ Try.func117 aY rfl #[U Z ai] (by rfl) rfl rfl iG ?_
   with_reducible refine (dN.calls ai t150 _ A5.out).mono ?_
   rintro e GZ ⟨rfl,hb⟩
   refine ⟨_,rfl,?_⟩
   replace kT:=uW kT hb
   replace jv:=bC jv hb
   replace HB:=dw HB hb
   (try clear hb)
   (try clear hb2)
   (try clear hk)
   (try clear hi)
   refine hK.out _ _ (nV jv.out) (fun hHeld=>?_)
   clear hK K
   refine eY axp ?_
   refine jJ (i:=11) (N:=some 24) #[ab,ab,ab,ab,ab,ab,ab,ab,ab,ab,ab,ab,ab,ab,ab,ac,ac,ac] rfl rfl (gM cO.out aY) (by decide) (fun K hK=>?_)
   refine gQ Try.func117 aY rfl #[U Z ax] (by rfl) rfl rfl iG ?_
   with_reducible refine (dN.calls ax t151 _ A6.out).mono ?_
   rintro e w21 ⟨rfl,hb⟩
   refine ⟨_,rfl,?_⟩
   replace kT:=uW kT hb
   replace jv:=bC jv hb
   replace HB:=dw HB hb
   (try clear hb)
   (try clear hb2)
   (try clear hk)
   (try clear hi)
   refine hK.out _ _ (nV jv.out) (fun hHeld=>?_)
   clear hK K
   refine eY akE ?_
   refine jJ (i:=15) (N:=some 28) #[ab,ab,ab,ab,ab,ab,ab,ab,ab,ab,ab,ab,ab,ab,ab,ab,ac,ac] rfl rfl (gM cO.out aY) (by decide) (fun K hK=>?_)
   refine gQ Try.func117 aY rfl #[U Z ay] (by rfl) rfl rfl iG ?_
   with_reducible refine (dN.calls ay t152 _ A7.out).mono ?_
   rintro e w22 ⟨rfl,hb⟩
   refine ⟨_,rfl,?_⟩
   replace kT:=uW kT hb
   replace jv:=bC jv hb
   replace HB:=dw HB hb
   (try clear hb)
   (try clear hb2)
   (try clear hk)
   (try clear hi)
   refine hK.out _ _ (nV jv.out) (fun hHeld=>?_)
   clear hK K
   refine eY axq ?_
   refine dW (i:=16) (N:=some 29) (aU cO.out aY) ?_
   refine dW (i:=17) (N:=some 30) (aU cO.out aY) ?_
   refine lI (lN cO.out aY) ?_
   try go_wp2
   go_ret
   exact ⟨axr,fu⟩
  ·rw [if_neg c11] at H
   have GN:decide (268435456 < (ahj)) = false:=decide_eq_false c11
   clear c11
   obtain rfl:=Option.some.inj H
   go_enter Try.func67,Try.ntmps67
   try go_wp2_with (first|((with_reducible refine aG (N:=1) rfl ?_);refine az (by rfl) (N:=1) (by rfl) (cs:=#[U Z ah,U Z ai,U Z ax,U Z ay]) (t:=31) fM ?_;intro Kh hg w23 hbox hb;have jv:=aa.mk (hbox);have asv:=dn HB hg;have asw:=dn HB hg;replace HB:=dw HB hb;clear hb hbox hg;obtain ⟨rq,ru,Ah,Ai,ry,rz,Aj,Ak⟩:=gD jv.out)|((with_reducible refine aG (N:=8) rfl ?_);refine Kd.Bn k27 _ 27 (by rfl) (N:=8) (by rfl) (xs:=([(⟨ah,ai⟩:lu),(⟨ax,ay⟩:lu)]:List (lu))) (inner:=[U Z ah,U Z ai,U Z ax,U Z ay]) (ok:=fun _=>True) (okp:=fun _=>True) fM auM (fun _ hk=>hk) trivial (Below.refl _ _) (Nat.le_refl _) (by simp) ?_;intro v146 w25 ahl hb Lc ow;clear Lc ow;(first|rw [← TB.out] at ahl|(simp only [Int.reduceToNat] at ahl;rw [← TB.out] at ahl));have kT:=aa.mk (Kd.jH ahl (fJ fu));replace jv:=bC jv hb;replace HB:=dw HB hb;clear hb ahl;obtain ⟨aNU,aNV,aNW⟩:=Kd.jI kT.out;subst aNW)|((with_reducible refine aN (f:=116) rfl ?_);refine bT (some 9) rfl rfl Try.func116 aY rfl #[.slice aNU ZN.length aNV] rfl iG ?_;(with_reducible refine (dB.calls k _ _ ZN t148 _ ?df ?dh A2.out).mono ?_);(case df=>repeat (first|exact (Kd.fo kT.out).2.2|(with_reducible refine Kd.bA ?_ _)|(with_reducible refine Kd.bB ?_ _)|(with_reducible refine Kd.bQ ?_)));(case dh=>exact (Kd.fo kT.out).2.1);rintro e w28 ⟨rfl,hb⟩;refine ⟨_,rfl,?_⟩;replace kT:=uW kT hb;replace jv:=bC jv hb;replace HB:=dw HB hb;(try clear hb);(try clear hb2);(try clear hk);(try clear hi)))
   replace kT:=aa.mk (Kd.iE kT.out)
   replace jv:=aa.mk (ag jv.out)
   replace HB:=aa.mk (bU HB.out)
   refine jT (n:=18) (S:=fun w'=>w'.cell? ⟨Kh,0,none⟩ = some (U Z ah)∧w'.cell? ⟨Kh,1,none⟩ = some (U Z ai)∧w'.cell? ⟨Kh,2,none⟩ = some (U Z ax)∧w'.cell? ⟨Kh,3,none⟩ = some (U Z ay)) (ds:=[]) #[ac,ac,ac,ac,ac,ac,ac,ac,ac,ac,ac,ac,ac,ac,ac,ac,ac,ac] aY rfl rfl (nV jv.out) (fun hHeld=>?_);refine jg dR.axm dR.ast (fun cO lS=>?_)
   generalize w28.drew = w29 at kT jv HB hHeld ⊢
   refine dW (i:=0) (N:=some 13) (aU cO.out aY) ?_
   refine dW (i:=1) (N:=some 14) (aU cO.out aY) ?_
   refine dW (i:=4) (N:=some 17) (aU cO.out aY) ?_
   refine dW (i:=5) (N:=some 18) (aU cO.out aY) ?_
   refine dW (i:=8) (N:=some 21) (aU cO.out aY) ?_
   refine dW (i:=9) (N:=some 22) (aU cO.out aY) ?_
   refine dW (i:=12) (N:=some 25) (aU cO.out aY) ?_
   refine dW (i:=13) (N:=some 26) (aU cO.out aY) ?_
   refine ja (i:=2) (N:=some 15) (bS cO.out lS.out aY) hHeld ?_
   refine ja (i:=6) (N:=some 19) (bS cO.out lS.out aY) hHeld ?_
   refine ja (i:=10) (N:=some 23) (bS cO.out lS.out aY) hHeld ?_
   refine ja (i:=14) (N:=some 27) (bS cO.out lS.out aY) hHeld ?_
   refine jJ (i:=3) (N:=some 16) #[ab,ab,ab,ab,ab,ab,ab,ac,ab,ab,ab,ac,ab,ab,ab,ac,ac,ac] rfl rfl (gM cO.out aY) (by decide) (fun K hK=>?_)
   refine gQ Try.func117 aY rfl #[U Z ah] (by rfl) rfl rfl iG ?_
   with_reducible refine (dN.calls ah t149 _ A4.out).mono ?_
   rintro e w30 ⟨rfl,hb⟩
   refine ⟨_,rfl,?_⟩
   replace kT:=uW kT hb
   replace jv:=bC jv hb
   replace HB:=dw HB hb
   (try clear hb)
   (try clear hb2)
   (try clear hk)
   (try clear hi)
   refine hK.out _ _ (nV jv.out) (fun hHeld=>?_)
   clear hK K
   refine eY afe ?_
   refine jJ (i:=7) (N:=some 20) #[ab,ab,ab,ab,ab,ab,ab,ab,ab,ab,ab,ac,ab,ab,ab,ac,ac,ac] rfl rfl (gM cO.out aY) (by decide) (fun K hK=>?_)
   refine gQ Try.func117 aY rfl #[U Z ai] (by rfl) rfl rfl iG ?_
   with_reducible refine (dN.calls ai t150 _ A5.out).mono ?_
   rintro e w31 ⟨rfl,hb⟩
   refine ⟨_,rfl,?_⟩
   replace kT:=uW kT hb
   replace jv:=bC jv hb
   replace HB:=dw HB hb
   (try clear hb)
   (try clear hb2)
   (try clear hk)
   (try clear hi)
   refine hK.out _ _ (nV jv.out) (fun hHeld=>?_)
   clear hK K
   refine eY axp ?_
   refine jJ (i:=11) (N:=some 24) #[ab,ab,ab,ab,ab,ab,ab,ab,ab,ab,ab,ab,ab,ab,ab,ac,ac,ac] rfl rfl (gM cO.out aY) (by decide) (fun K hK=>?_)
   refine gQ Try.func117 aY rfl #[U Z ax] (by rfl) rfl rfl iG ?_
   with_reducible refine (dN.calls ax t151 _ A6.out).mono ?_
   rintro e w32 ⟨rfl,hb⟩
   refine ⟨_,rfl,?_⟩
   replace kT:=uW kT hb
   replace jv:=bC jv hb
   replace HB:=dw HB hb
   (try clear hb)
   (try clear hb2)
   (try clear hk)
   (try clear hi)
   refine hK.out _ _ (nV jv.out) (fun hHeld=>?_)
   clear hK K
   refine eY akE ?_
   refine jJ (i:=15) (N:=some 28) #[ab,ab,ab,ab,ab,ab,ab,ab,ab,ab,ab,ab,ab,ab,ab,ab,ac,ac] rfl rfl (gM cO.out aY) (by decide) (fun K hK=>?_)
   refine gQ Try.func117 aY rfl #[U Z ay] (by rfl) rfl rfl iG ?_
   with_reducible refine (dN.calls ay t152 _ A7.out).mono ?_
   rintro e w33 ⟨rfl,hb⟩
   refine ⟨_,rfl,?_⟩
   replace kT:=uW kT hb
   replace jv:=bC jv hb
   replace HB:=dw HB hb
   (try clear hb)
   (try clear hb2)
   (try clear hk)
   (try clear hi)
   refine hK.out _ _ (nV jv.out) (fun hHeld=>?_)
   clear hK K
   refine eY axq ?_
   refine dW (i:=16) (N:=some 29) (aU cO.out aY) ?_
   refine dW (i:=17) (N:=some 30) (aU cO.out aY) ?_
   refine lI (lN cO.out aY) ?_
   try go_wp2
   go_ret
   exact ⟨axr,fu⟩
 ·rw [if_neg c3] at H
  have D9:(t148 == 0) = false:=beq_eq_false_iff_ne.mpr c3
  have SI:(t148 != 0) = true:=bne_iff_ne.mpr c3
  obtain rfl:=Option.some.inj H
  go_enter Try.func67,Try.ntmps67
  go_wp2_with (first|((with_reducible refine aG (N:=1) rfl ?_);refine az (by rfl) (N:=1) (by rfl) (cs:=#[U Z ah,U Z ai,U Z ax,U Z ay]) (t:=31) fM ?_;intro Kh hg w34 hbox hb;have jv:=aa.mk (hbox);have asv:=dn HB hg;have asw:=dn HB hg;replace HB:=dw HB hb;clear hb hbox hg;obtain ⟨Al,Am,ET,EU,Ao,Ap,EW,EX⟩:=gD jv.out)|((with_reducible refine aG (N:=8) rfl ?_);refine Kd.Bn k27 _ 27 (by rfl) (N:=8) (by rfl) (xs:=([(⟨ah,ai⟩:lu),(⟨ax,ay⟩:lu)]:List (lu))) (inner:=[U Z ah,U Z ai,U Z ax,U Z ay]) (ok:=fun _=>True) (okp:=fun _=>True) fM auM (fun _ hk=>hk) trivial (Below.refl _ _) (Nat.le_refl _) (by simp) ?_;intro v146 w36 ahn hb Lc ow;clear Lc ow;(first|rw [← TB.out] at ahn|(simp only [Int.reduceToNat] at ahn;rw [← TB.out] at ahn));have kT:=aa.mk (Kd.jH ahn (fJ fu));replace jv:=bC jv hb;replace HB:=dw HB hb;clear hb ahn;obtain ⟨aNX,aNY,aNZ⟩:=Kd.jI kT.out;subst aNZ)|((with_reducible refine aN (f:=116) rfl ?_);refine bT (some 9) rfl rfl Try.func116 aY rfl #[.slice aNX ZN.length aNY] rfl iG ?_;(with_reducible refine (dB.calls k _ _ ZN t148 _ ?df ?dh A2.out).mono ?_);(case df=>repeat (first|exact (Kd.fo kT.out).2.2|(with_reducible refine Kd.bA ?_ _)|(with_reducible refine Kd.bB ?_ _)|(with_reducible refine Kd.bQ ?_)));(case dh=>exact (Kd.fo kT.out).2.1);rintro e w39 ⟨rfl,hb⟩;refine ⟨_,rfl,?_⟩;replace kT:=uW kT hb;replace jv:=bC jv hb;replace HB:=dw HB hb;(try clear hb);(try clear hb2);(try clear hk);(try clear hi)))
  go_ret
  exact ⟨kL,fu⟩
def oz.f (k:Nat) (ah:Int) (ai:Int) (ax:Int) (ay:Int) (a1:Int):Option (Int):=(dR.f k ah ai ax ay).bind fun t154=>(if t154 = 0 then ((bR.f a1 0 1073741824).bind fun t155=>(if t155 = true then (some 0) else (some 3))) else (some t154))
set_option maxHeartbeats 8000000 in
set_option maxRecDepth 100000 in
theorem oz.calls (k:Nat) (ah:Int) (ai:Int) (ax:Int) (ay:Int) (a1:Int) (r:Int) (w:World) (h:oz.f k ah ai ax ay a1 = some r):
 Calls Try.prog 114 #[.agg #[U Z ah,U Z ai,U Z ax,U Z ay],U Z a1] w fun e w'=>e = .returned (U Z r)∧Below w.heap.size w w':=by
 have oP:=Try.underlying31
 have HB:=aa.mk (Below.refl w.heap.size w)
 have H:((dR.f k ah ai ax ay).bind fun t154=>(if t154 = 0 then ((bR.f a1 0 1073741824).bind fun t155=>(if t155 = true then (some 0) else (some 3))) else (some t154))) = some r:=h
 clear h
 replace H:=Option.bind_eq_some_iff.mp H
 obtain ⟨t154,O5,H⟩:=H
 replace H:(if t154 = 0 then ((bR.f a1 0 1073741824).bind fun t155=>(if t155 = true then (some 0) else (some 3))) else (some t154)) = some r:=H
 have A3:=aa.mk O5
 clear O5
 by_cases c4:t154 = 0
 ·rw [if_pos c4] at H
  have sK:(t154 == 0) = true:=beq_iff_eq.mpr c4
  have aho:(t154 != 0) = false:=bne_eq_false_iff_eq.mpr c4
  clear c4
  replace H:=Option.bind_eq_some_iff.mp H
  obtain ⟨t155,O4,H⟩:=H
  replace H:(if t155 = true then (some 0) else (some 3)) = some r:=H
  have A5:=aa.mk O4
  clear O4
  by_cases c6:t155 = true
  ·subst c6
   have H1:(some 0) = some r:=by rw [if_pos rfl] at H;exact H
   clear H
   have H:=H1
   clear H1
   obtain rfl:=Option.some.inj H
   go_enter Try.func114,Try.ntmps114
   go_wp2_with (first|((with_reducible refine aG (N:=2) rfl ?_);refine az (by rfl) (N:=2) (by rfl) (cs:=#[U Z ah,U Z ai,U Z ax,U Z ay]) (t:=31) fM ?_;intro asz hg w7 hbox hb;have Hl:=aa.mk (hbox);have asA:=dn HB hg;have asB:=dn HB hg;replace HB:=dw HB hb;clear hb hbox hg;obtain ⟨NC,ND,ZO,ZP,NF,NG,ZQ,ZR⟩:=gD Hl.out)|((with_reducible refine aN (f:=67) rfl ?_);refine bT (some 7) rfl rfl Try.func67 aY rfl #[.agg #[U Z ah,U Z ai,U Z ax,U Z ay]] rfl iG ?_;(with_reducible refine (dR.calls k ah ai ax ay t154 _ A3.out).mono ?_);rintro e w9 ⟨rfl,hb⟩;refine ⟨_,rfl,?_⟩;replace Hl:=bC Hl hb;replace HB:=dw HB hb;(try clear hb);(try clear hb2);(try clear hk);(try clear hi))|((with_reducible refine aN (f:=74) rfl ?_);refine bT (some 12) rfl rfl Try.func74 aY rfl #[U Z a1,U Z 0,U Z 1073741824] rfl iG ?_;(with_reducible refine (bR.calls a1 0 1073741824 true _ A5.out).mono ?_);rintro e w' ⟨rfl,⟨nd,rfl⟩⟩;refine ⟨_,rfl,?_⟩))
   go_ret
   exact ⟨kL,fu⟩
  ·replace c6:=Bool.eq_false_iff.mpr c6
   subst c6
   have H1:(some 3) = some r:=by rw [if_neg (show ¬ (false = true) by decide)] at H;exact H
   clear H
   have H:=H1
   clear H1
   obtain rfl:=Option.some.inj H
   go_enter Try.func114,Try.ntmps114
   go_wp2_with (first|((with_reducible refine aG (N:=2) rfl ?_);refine az (by rfl) (N:=2) (by rfl) (cs:=#[U Z ah,U Z ai,U Z ax,U Z ay]) (t:=31) fM ?_;intro asz hg w10 hbox hb;have Hl:=aa.mk (hbox);have asA:=dn HB hg;have asB:=dn HB hg;replace HB:=dw HB hb;clear hb hbox hg;obtain ⟨uZ,u6,Aq,Ar,u7,ve,Au,Av⟩:=gD Hl.out)|((with_reducible refine aN (f:=67) rfl ?_);refine bT (some 7) rfl rfl Try.func67 aY rfl #[.agg #[U Z ah,U Z ai,U Z ax,U Z ay]] rfl iG ?_;(with_reducible refine (dR.calls k ah ai ax ay t154 _ A3.out).mono ?_);rintro e Nv ⟨rfl,hb⟩;refine ⟨_,rfl,?_⟩;replace Hl:=bC Hl hb;replace HB:=dw HB hb;(try clear hb);(try clear hb2);(try clear hk);(try clear hi))|((with_reducible refine aN (f:=74) rfl ?_);refine bT (some 12) rfl rfl Try.func74 aY rfl #[U Z a1,U Z 0,U Z 1073741824] rfl iG ?_;(with_reducible refine (bR.calls a1 0 1073741824 false _ A5.out).mono ?_);rintro e w' ⟨rfl,⟨nd,rfl⟩⟩;refine ⟨_,rfl,?_⟩))
   go_ret
   exact ⟨kL,fu⟩
 ·rw [if_neg c4] at H
  have sK:(t154 == 0) = false:=beq_eq_false_iff_ne.mpr c4
  have aho:(t154 != 0) = true:=bne_iff_ne.mpr c4
  obtain rfl:=Option.some.inj H
  go_enter Try.func114,Try.ntmps114
  go_wp2_with (first|((with_reducible refine aG (N:=2) rfl ?_);refine az (by rfl) (N:=2) (by rfl) (cs:=#[U Z ah,U Z ai,U Z ax,U Z ay]) (t:=31) fM ?_;intro asz hg TA hbox hb;have Hl:=aa.mk (hbox);have asA:=dn HB hg;have asB:=dn HB hg;replace HB:=dw HB hb;clear hb hbox hg;obtain ⟨vg,vk,Ci,Cj,vo,vv,Ck,Cm⟩:=gD Hl.out)|((with_reducible refine aN (f:=67) rfl ?_);refine bT (some 7) rfl rfl Try.func67 aY rfl #[.agg #[U Z ah,U Z ai,U Z ax,U Z ay]] rfl iG ?_;(with_reducible refine (dR.calls k ah ai ax ay t154 _ A3.out).mono ?_);rintro e w15 ⟨rfl,hb⟩;refine ⟨_,rfl,?_⟩;replace Hl:=bC Hl hb;replace HB:=dw HB hb;(try clear hb);(try clear hb2);(try clear hk);(try clear hi)))
  go_ret
  exact ⟨kL,fu⟩
def eQ.l0:Nat→Int→List (Hm)→Int→Int→Option (Int)
 |0,_,_,_,_=>none
 |k+1,x1,x10,TD,wB=>if wB < TD then (if 0≤wB then (if wB < (x10.length:Int) then (if ((o5 x10 wB).f0) < 0 then (some 2) else (if ((o5 x10 wB).f0) ≥ 9 then (some 2) else (if ((o5 x10 wB).f1) < 0 then (some 2) else (if x1 ≥ 0 then (if ((o5 x10 wB).f1) ≥ x1 then (some 2) else (eQ.l0 k x1 x10 TD (wrap64 (wB+1)))) else (eQ.l0 k x1 x10 TD (wrap64 (wB+1))))))) else (none)) else (none)) else (some 0)
def eQ.f (k:Nat) (l0:List (Hm)) (a1:Int):Option (Int):=if (l0.length:Int) > 64 then (some 6) else (eQ.l0 k a1 l0 (l0.length:Int) 0)
set_option maxHeartbeats 8000000 in
set_option maxRecDepth 100000 in
theorem eQ.calls (k:Nat) (A0:Option Addr) (c0:Nat) (l0:List (Hm)) (a1:Int) (r:Int) (w:World) (hr0:Kd.C k33 w A0 l0.length l0) (hc0:l0.length≤c0) (h:eQ.f k l0 a1 = some r):
 Calls Try.prog 65 #[.slice A0 l0.length c0,U Z a1] w fun e w'=>e = .returned (U Z r)∧Below w.heap.size w w':=by
 have SH:=Try.underlying33
 have XE:=aa.mk hr0
 have HC0:=aa.mk hc0
 clear hr0 hc0
 have HB:=aa.mk (Below.refl w.heap.size w)
 have H:(if (l0.length:Int) > 64 then (some 6) else (eQ.l0 k a1 l0 (l0.length:Int) 0)) = some r:=h
 clear h
 by_cases c3:(l0.length:Int) > 64
 ·rw [if_pos c3] at H
  have D9:decide (64 < (l0.length:Int)) = true:=decide_eq_true c3
  have SI:decide (64 < l0.length) = true:=decide_eq_true (by omega)
  clear c3
  obtain rfl:=Option.some.inj H
  go_enter Try.func65,Try.ntmps65
  go_wp2
  go_ret
  exact ⟨kL,fu⟩
 ·rw [if_neg c3] at H
  have D9:decide (64 < (l0.length:Int)) = false:=decide_eq_false c3
  have SI:decide (64 < l0.length) = false:=decide_eq_false (by omega)
  clear c3
  have H':=aa.mk H
  clear H
  go_enter Try.func65,Try.ntmps65
  go_wp2
  go_loopg [12] k (fun kq v12 w'=>∃ (cK:Int),v12 = U Z cK∧aa (eQ.l0 kq a1 l0 (l0.length:Int) cK = some r)∧aa (kq≤k)∧aa (Below w.heap.size w w'))
  case atStart=>exact ⟨(0),mg,H',⟨Nat.le_refl _⟩,⟨fu⟩⟩
  case round =>
   clear H'
   try clear p2
   try clear c3
   try clear D9
   try clear SI
   obtain ⟨cK,rfl,HA,G5,HB⟩:=hrel
   cases gk with
   |zero=>exact absurd HA.out (by simp [eQ.l0])
   |succ k1 =>
    have H:=HA.out
    clear HA
    simp only [eQ.l0] at H
    by_cases c4:cK < (l0.length:Int)
    ·rw [if_pos c4] at H
     have sK:decide (cK < (l0.length:Int)) = true:=decide_eq_true c4
     clear c4
     by_cases c5:0≤cK
     ·rw [if_pos c5] at H
      have Ea:decide (0≤cK) = true:=decide_eq_true c5
      clear c5
      by_cases c6:cK < (l0.length:Int)
      ·rw [if_pos c6] at H
       have Ld:decide (cK < (l0.length:Int)) = true:=decide_eq_true c6
       clear c6
       by_cases c7:((o5 l0 cK).f0) < 0
       ·rw [if_pos c7] at H
        have Kw:decide (((o5 l0 cK).f0) < 0) = true:=decide_eq_true c7
        clear c7
        obtain rfl:=Option.some.inj H
        have Bu:0≤(cK:Int):=of_decide_eq_true qN
        have Bv:cK < (l0.length:Int):=of_decide_eq_true qN
        obtain ⟨XF,Rk,kU,kV⟩:=NH XE.out cK Bu Bv
        cases Rk
        replace kU:=(HB.out.cell (World.block_lt_of_cell? w _ kU)).trans kU
        replace kV:=(HB.out.cell (World.block_lt_of_cell? w _ kV)).trans kV
        replace Bu:=eq_true Bu
        replace Bv:=eq_true Bv
        go_wp2_with (first|((with_reducible refine aG (N:=6) rfl ?_);refine az (by rfl) (N:=6) (by rfl) (cs:=#[U Z 0,U Z 0]) (t:=33) fM ?_;intro XG hg w8 hbox hb;have Ho:=aa.mk (hbox);have XH:=dn HB hg;have XI:=dn HB hg;replace HB:=dw HB hb;clear hb hbox hg;obtain ⟨Bw,Bz,BA,BC⟩:=jq Ho.out))
        go_ret
        exact ⟨kL,fu⟩
       ·rw [if_neg c7] at H
        have Kw:decide (((o5 l0 cK).f0) < 0) = false:=decide_eq_false c7
        clear c7
        by_cases c10:((o5 l0 cK).f0) ≥ 9
        ·rw [if_pos c10] at H
         have Cn:decide (9≤((o5 l0 cK).f0)) = true:=decide_eq_true c10
         clear c10
         obtain rfl:=Option.some.inj H
         have Bu:0≤(cK:Int):=of_decide_eq_true qN
         have Bv:cK < (l0.length:Int):=of_decide_eq_true qN
         obtain ⟨XF,Rk,kU,kV⟩:=NH XE.out cK Bu Bv
         cases Rk
         replace kU:=(HB.out.cell (World.block_lt_of_cell? w _ kU)).trans kU
         replace kV:=(HB.out.cell (World.block_lt_of_cell? w _ kV)).trans kV
         replace Bu:=eq_true Bu
         replace Bv:=eq_true Bv
         go_wp2_with (first|((with_reducible refine aG (N:=6) rfl ?_);refine az (by rfl) (N:=6) (by rfl) (cs:=#[U Z 0,U Z 0]) (t:=33) fM ?_;intro XG hg w11 hbox hb;have Ho:=aa.mk (hbox);have XH:=dn HB hg;have XI:=dn HB hg;replace HB:=dw HB hb;clear hb hbox hg;obtain ⟨qx,qy,qz,qA⟩:=jq Ho.out))
         go_ret
         exact ⟨kL,fu⟩
        ·rw [if_neg c10] at H
         have Cn:decide (9≤((o5 l0 cK).f0)) = false:=decide_eq_false c10
         clear c10
         by_cases c13:((o5 l0 cK).f1) < 0
         ·rw [if_pos c13] at H
          have ahq:decide (((o5 l0 cK).f1) < 0) = true:=decide_eq_true c13
          clear c13
          obtain rfl:=Option.some.inj H
          have Bu:0≤(cK:Int):=of_decide_eq_true qN
          have Bv:cK < (l0.length:Int):=of_decide_eq_true qN
          obtain ⟨XF,Rk,kU,kV⟩:=NH XE.out cK Bu Bv
          cases Rk
          replace kU:=(HB.out.cell (World.block_lt_of_cell? w _ kU)).trans kU
          replace kV:=(HB.out.cell (World.block_lt_of_cell? w _ kV)).trans kV
          replace Bu:=eq_true Bu
          replace Bv:=eq_true Bv
          go_wp2_with (first|((with_reducible refine aG (N:=6) rfl ?_);refine az (by rfl) (N:=6) (by rfl) (cs:=#[U Z 0,U Z 0]) (t:=33) fM ?_;intro XG hg w14 hbox hb;have Ho:=aa.mk (hbox);have XH:=dn HB hg;have XI:=dn HB hg;replace HB:=dw HB hb;clear hb hbox hg;obtain ⟨nI,nJ,nK,nL⟩:=jq Ho.out))
          go_ret
          exact ⟨kL,fu⟩
         ·rw [if_neg c13] at H
          have ahq:decide (((o5 l0 cK).f1) < 0) = false:=decide_eq_false c13
          clear c13
          by_cases c16:a1 ≥ 0
          ·rw [if_pos c16] at H
           have Co:decide (0≤a1) = true:=decide_eq_true c16
           clear c16
           by_cases c17:((o5 l0 cK).f1) ≥ a1
           ·rw [if_pos c17] at H
            have axu:decide (a1≤((o5 l0 cK).f1)) = true:=decide_eq_true c17
            clear c17
            obtain rfl:=Option.some.inj H
            have Bu:0≤(cK:Int):=of_decide_eq_true qN
            have Bv:cK < (l0.length:Int):=of_decide_eq_true qN
            obtain ⟨XF,Rk,kU,kV⟩:=NH XE.out cK Bu Bv
            cases Rk
            replace kU:=(HB.out.cell (World.block_lt_of_cell? w _ kU)).trans kU
            replace kV:=(HB.out.cell (World.block_lt_of_cell? w _ kV)).trans kV
            replace Bu:=eq_true Bu
            replace Bv:=eq_true Bv
            go_wp2_with (first|((with_reducible refine aG (N:=6) rfl ?_);refine az (by rfl) (N:=6) (by rfl) (cs:=#[U Z 0,U Z 0]) (t:=33) fM ?_;intro XG hg w18 hbox hb;have Ho:=aa.mk (hbox);have XH:=dn HB hg;have XI:=dn HB hg;replace HB:=dw HB hb;clear hb hbox hg;obtain ⟨pI,pJ,pK,pM⟩:=jq Ho.out))
            go_ret
            exact ⟨kL,fu⟩
           ·rw [if_neg c17] at H
            have axu:decide (a1≤((o5 l0 cK).f1)) = false:=decide_eq_false c17
            clear c17
            have H':=aa.mk H
            clear H
            have Bu:0≤(cK:Int):=of_decide_eq_true qN
            have Bv:cK < (l0.length:Int):=of_decide_eq_true qN
            obtain ⟨XF,Rk,kU,kV⟩:=NH XE.out cK Bu Bv
            cases Rk
            replace kU:=(HB.out.cell (World.block_lt_of_cell? w _ kU)).trans kU
            replace kV:=(HB.out.cell (World.block_lt_of_cell? w _ kV)).trans kV
            replace Bu:=eq_true Bu
            replace Bv:=eq_true Bv
            go_wp2_with (first|((with_reducible refine aG (N:=6) rfl ?_);refine az (by rfl) (N:=6) (by rfl) (cs:=#[U Z 0,U Z 0]) (t:=33) fM ?_;intro XG hg GZ hbox hb;have Ho:=aa.mk (hbox);have XH:=dn HB hg;have XI:=dn HB hg;replace HB:=dw HB hb;clear hb hbox hg;obtain ⟨pO,pQ,pR,pU⟩:=jq Ho.out))
            go_roundg k1
            case measure=>have:=G5.out;omega
            case rel=>exact ⟨(wrap64 (cK+1)),mg,H',⟨zq7⟩,⟨fu⟩⟩
          ·rw [if_neg c16] at H
           have Co:decide (0≤a1) = false:=decide_eq_false c16
           clear c16
           have H':=aa.mk H
           clear H
           have Bu:0≤(cK:Int):=of_decide_eq_true qN
           have Bv:cK < (l0.length:Int):=of_decide_eq_true qN
           obtain ⟨XF,Rk,kU,kV⟩:=NH XE.out cK Bu Bv
           cases Rk
           replace kU:=(HB.out.cell (World.block_lt_of_cell? w _ kU)).trans kU
           replace kV:=(HB.out.cell (World.block_lt_of_cell? w _ kV)).trans kV
           replace Bu:=eq_true Bu
           replace Bv:=eq_true Bv
           go_wp2_with (first|((with_reducible refine aG (N:=6) rfl ?_);refine az (by rfl) (N:=6) (by rfl) (cs:=#[U Z 0,U Z 0]) (t:=33) fM ?_;intro XG hg w22 hbox hb;have Ho:=aa.mk (hbox);have XH:=dn HB hg;have XI:=dn HB hg;replace HB:=dw HB hb;clear hb hbox hg;obtain ⟨EY,EZ,E5,E8⟩:=jq Ho.out))
           go_roundg k1
           case measure=>have:=G5.out;omega
           case rel=>exact ⟨(wrap64 (cK+1)),mg,H',⟨zq7⟩,⟨fu⟩⟩
      ·rw [if_neg c6] at H
       exact absurd H (by simp)
     ·rw [if_neg c5] at H
      exact absurd H (by simp)
    ·rw [if_neg c4] at H
     have sK:decide (cK < (l0.length:Int)) = false:=decide_eq_false c4
     clear c4
     obtain rfl:=Option.some.inj H
     go_wp2
     go_ret
     exact ⟨kL,fu⟩
end Go.Proofs.Ytmhaiihjfgfaoaa.Pr
end
