import Derived.Test.YtmhaiihjfgfaoaaGhGliderHolds3
import Derived.Test.YtmhaiihjfgfaoaaGhGliderHolds13
import Derived.Test.YtmhaiihjfgfaoaaGhGliderHolds6
section
namespace Go.Proofs.Ytmhaiihjfgfaoaa.Gl
open Go.RowKit Go.Shelf Go.Proofs.YtmhaiihjfgfaoaaW.PrintWords Go.Proofs.YtmhaiihjfgfaoaaW.PrintLast Go.Proofs.YtmhaiihjfgfaoaaW.PrintMore Go.Proofs.Ytmhaiihjfgfaoaa.Pr Go.Proofs.YtmhaiihjfgfaoaaW.Round
set_option linter.unusedVariables false
set_option linter.unusedSimpArgs false
attribute [local go_sem] cz cB dK dL cK
structure PU (s:lF):Prop where
 n:xz s
 sh:(s.shores.length:Int) = s.nx*s.ny
 cu:(s.currents.length:Int) = s.slots*s.layers*(s.nx*s.ny)
 cb:aml s
def qx (x:gz):Prop:=Bq x∧x.f0.f0≤x.f0.f1∧x.f1.f0≤x.f1.f1
theorem IG {s:lF} {v:qO} {x:gz} {t:Int} (hS:xz s) (hV:Br v) (hx:qx x) (h:lY s v x t = 0):Qt s (dB s v x)∧(0≤t∧t+v.dive≤s.slots*s.slot)∧(0≤x.f0.f0∧x.f0.f1≤1000000)∧(0≤x.f1.f0∧x.f1.f1≤1000000):=by
 have hm:=hS.most
 have hsp:=hV.speed
 have hdv:=hV.dive
 have p1:=fI (show 0≤v.speed+s.most by omega) (show v.speed+s.most≤10000 by omega) (show 0≤v.dive by omega) hdv.2
 have p2:=fI (show 0≤s.nx by have:=hS.nx;omega) hS.nx.2 (show 0≤s.cell by have:=hS.cell;omega) hS.cell.2
 have p3:=fI (show 0≤s.ny by have:=hS.ny;omega) hS.ny.2 (show 0≤s.cell by have:=hS.cell;omega) hS.cell.2
 obtain ⟨⟨x0,x1,x2,x3⟩,x4,x5⟩:=hx
 unfold lY at h
 have hc:gN s (dB s v x) = true∧ql s t (t+v.dive) = true:=by
  by_cases hb:(gN s (dB s v x) && ql s t (t+v.dive)) = true
  ·exact Bool.and_eq_true_iff.1 hb
  ·rw [if_neg hb] at h
   cases h
 obtain ⟨h1,h2⟩:=hc
 unfold gN dB at h1
 unfold ql at h2
 simp only [Bool.and_eq_true,decide_eq_true_eq] at h1 h2
 unfold Qt dB
 dsimp only
 omega
def mO (s:lF) (v:qO) (x:gz) (t:Int):Int:=if lY s v x t≠0 then lY s v x t else xY s (dB s v x)
def kY (s:lF) (v:qO) (x:gz) (t hd layer:Int):gz:=if mO s v x t = 0 then vX s v x (dB s v x) t hd layer else z31
theorem UM (s:lF) (x:gz):xY s x = 0∨xY s x = 21:=by
 unfold xY
 split
 ·exact .inr rfl
 ·exact .inl rfl
theorem OW {s:lF} {v:qO} {x:gz} {t hd layer:Int} (hS:PU s) (hV:Br v) (hx:qx x) (h:mO s v x t = 0):qx (kY s v x t hd layer):=by
 have hr:lY s v x t = 0:=by
  unfold mO at h
  by_cases hz:lY s v x t = 0
  ·exact hz
  ·rw [if_pos hz] at h
   exact absurd h hz
 obtain ⟨_,_,⟨a0,a1⟩,b0,b1⟩:=IG hS.n hV hx hr
 obtain ⟨_,o1,o2⟩:=hx
 have hdv:=hV.dive
 have hsp:=hV.speed
 have hdi:=IC hd
 have hai:=Yr hS.cb (dB s v x) layer t (t+v.dive)
 unfold kY
 rw [if_pos h]
 unfold vX nL qx Bq Dm Uo
 dsimp only
 generalize z8 s (dB s v x) layer t (t+v.dive) = y at*
 generalize pU hd = d at*
 obtain ⟨⟨y0,y1⟩,⟨y2,y3⟩,⟨y4,y5⟩,⟨y6,y7⟩,y8,y9⟩:=hai
 have m0:=nH (a:=d.1) (b:=v.speed) (m:=1000) (n:=5000) hdi.1.1 hdi.1.2 hsp.1 hsp.2 (by omega)
 have m1:=nH (a:=d.2) (b:=v.speed) (m:=1000) (n:=5000) hdi.2.1 hdi.2.2 hsp.1 hsp.2 (by omega)
 generalize d.1*v.speed = e at*
 generalize d.2*v.speed = f at*
 have n0:=nH (a:=e+1000*y.f0.f0) (b:=v.dive) (m:=10000000) (n:=131072) (by omega) (by omega) (by omega) (by omega) (by omega)
 have n1:=nH (a:=e+1000*y.f0.f1) (b:=v.dive) (m:=10000000) (n:=131072) (by omega) (by omega) (by omega) (by omega) (by omega)
 have n2:=nH (a:=f+1000*y.f1.f0) (b:=v.dive) (m:=10000000) (n:=131072) (by omega) (by omega) (by omega) (by omega) (by omega)
 have n3:=nH (a:=f+1000*y.f1.f1) (b:=v.dive) (m:=10000000) (n:=131072) (by omega) (by omega) (by omega) (by omega) (by omega)
 have k0:=Int.mul_le_mul_of_nonneg_right (show e+1000*y.f0.f0≤e+1000*y.f0.f1 by omega) (show 0≤v.dive by omega)
 have k1:=Int.mul_le_mul_of_nonneg_right (show f+1000*y.f1.f0≤f+1000*y.f1.f1 by omega) (show 0≤v.dive by omega)
 generalize (e+1000*y.f0.f0)*v.dive = A at*
 generalize (e+1000*y.f0.f1)*v.dive = B at*
 generalize (f+1000*y.f1.f0)*v.dive = C at*
 generalize (f+1000*y.f1.f1)*v.dive = E at*
 clear m0 m1 hdi hdv hsp h hr
 omega
set_option maxRecDepth 100000 in
set_option maxHeartbeats 8000000 in
theorem UN (b:Nat) (s:lF) (v:qO) (x:gz) (t hd layer:Int) (w:World) (hT:kZ w b s v) (hS:PU s) (hV:Br v) (hx:qx x) (ht0:0≤t) (ht1:t≤1099511627776) (hh0:0≤hd) (Un:hd≤8) (hl0:0≤layer) (hl1:layer < s.layers):
 Calls Try.prog 66 #[.pointer (some ⟨b,0,none⟩),.agg #[.int .i64 x.f0.f0,.int .i64 x.f0.f1,.int .i64 x.f1.f0,.int .i64 x.f1.f1],.int .i64 t,.agg #[.int .i64 hd,.int .i64 layer]] w (xA (.tuple #[.agg #[.int .i64 (kY s v x t hd layer).f0.f0,.int .i64 (kY s v x t hd layer).f0.f1,.int .i64 (kY s v x t hd layer).f1.f0,.int .i64 (kY s v x t hd layer).f1.f1],.int .i64 (mO s v x t)]) w):=by
 have qP:=Try.underlying31
 have pK:=Try.underlying27
 have Rs:=Try.underlying33
 have kR:=fun W (h:kZ W b s v)=>abq b s v x t W h hS.n hV hx.1 ht0 ht1
 have hok:=IG (t:=t) hS.n hV hx
 have HE:Hid (mO s v x t = if lY s v x t≠0 then lY s v x t else xY s (dB s v x)):=Lib.hid rfl
 have HV:Hid (kY s v x t hd layer = if mO s v x t = 0 then vX s v x (dB s v x) t hd layer else z31):=Lib.hid rfl
 have HRV:Hid (Bp s v x t = if lY s v x t = 0 then dB s v x else z31):=Lib.hid rfl
 go_enter Try.func66,Try.ntmps66
 go_wp2_with fail
 have m5:iD (((w.alloc (.cells #[.int .i64 x.f0.f0,.int .i64 x.f0.f1,.int .i64 x.f1.f0,.int .i64 x.f1.f1] 31)).alloc (.cells #[.int .i64 hd,.int .i64 layer] 33)).alloc (.cells #[.int .i64 0,.int .i64 0,.int .i64 0,.int .i64 0] 31)) (w.heap.size) #[.int .i64 x.f0.f0,.int .i64 x.f0.f1,.int .i64 x.f1.f0,.int .i64 x.f1.f1] 31:=(ag (ag af6 _) _)
 have m7:iD (((w.alloc (.cells #[.int .i64 x.f0.f0,.int .i64 x.f0.f1,.int .i64 x.f1.f0,.int .i64 x.f1.f1] 31)).alloc (.cells #[.int .i64 hd,.int .i64 layer] 33)).alloc (.cells #[.int .i64 0,.int .i64 0,.int .i64 0,.int .i64 0] 31)) (w.heap.size+1) #[.int .i64 hd,.int .i64 layer] 33:=(ag (by have h_:=fT (w.alloc (.cells #[.int .i64 x.f0.f0,.int .i64 x.f0.f1,.int .i64 x.f1.f0,.int .i64 x.f1.f1] 31)) (.cells #[.int .i64 hd,.int .i64 layer] 33);first|exact h_|(simp only [World.size_alloc] at h_;exact h_)) _)
 have m8:iD (((w.alloc (.cells #[.int .i64 x.f0.f0,.int .i64 x.f0.f1,.int .i64 x.f1.f0,.int .i64 x.f1.f1] 31)).alloc (.cells #[.int .i64 hd,.int .i64 layer] 33)).alloc (.cells #[.int .i64 0,.int .i64 0,.int .i64 0,.int .i64 0] 31)) (w.heap.size+1+1) #[.int .i64 0,.int .i64 0,.int .i64 0,.int .i64 0] 31:=(by have h_:=fT ((w.alloc (.cells #[.int .i64 x.f0.f0,.int .i64 x.f0.f1,.int .i64 x.f1.f0,.int .i64 x.f1.f1] 31)).alloc (.cells #[.int .i64 hd,.int .i64 layer] 33)) (.cells #[.int .i64 0,.int .i64 0,.int .i64 0,.int .i64 0] 31);first|exact h_|(simp only [World.size_alloc] at h_;exact h_))
 have mB:Below w.heap.size w (((w.alloc (.cells #[.int .i64 x.f0.f0,.int .i64 x.f0.f1,.int .i64 x.f1.f0,.int .i64 x.f1.f1] 31)).alloc (.cells #[.int .i64 hd,.int .i64 layer] 33)).alloc (.cells #[.int .i64 0,.int .i64 0,.int .i64 0,.int .i64 0] 31)):=(aY (aY (aY (Below.refl w.heap.size w) _) _) _)
 have nK:w.heap.size≤w.heap.size:=Nat.le_refl _
 generalize xV:(((w.alloc (.cells #[.int .i64 x.f0.f0,.int .i64 x.f0.f1,.int .i64 x.f1.f0,.int .i64 x.f1.f1] 31)).alloc (.cells #[.int .i64 hd,.int .i64 layer] 33)).alloc (.cells #[.int .i64 0,.int .i64 0,.int .i64 0,.int .i64 0] 31)) = W1 at m5 m7 m8 mB ⊢
 clear xV
 generalize hg5:w.heap.size = g5 at m5 m7 m8 ⊢
 have hG5:w.heap.size≤g5:=by omega
 generalize hg7:g5+1 = g7 at m7 m8 ⊢
 have GN:g5≠g7:=by omega
 have WO:g7≠g5:=GN.symm
 have hG7:w.heap.size≤g7:=by omega
 generalize hg8:g7+1 = g8 at m8 ⊢
 have WQ:g5≠g8:=by omega
 have WR:g7≠g8:=by omega
 have amt:g8≠g5:=WQ.symm
 have amu:g8≠g7:=WR.symm
 have WS:w.heap.size≤g8:=by omega
 clear nK
 try clear hg8
 try clear hg7
 try clear hg5
 have Dl:w.heap.size≤W1.heap.size:=mB.size
 have hcon:=kR W1 (hT.below mB)
 (with_reducible refine hcon.mono ?_)
 clear hcon
 rintro e W2 ⟨rfl,hb⟩
 replace m5:=aV m5 hb
 replace m7:=aV m7 hb
 replace m8:=aV m8 hb
 replace mB:=dY mB hb
 clear hb
 have x9:w.heap.size≤W2.heap.size:=mB.size
 clear kR
 by_cases hr:lY s v x t = 0
 case neg =>
  have HZ:Hid (mO s v x t = lY s v x t):=Lib.hid (HE.out.trans (if_pos hr))
  try clear HE
  have HV2:Hid (kY s v x t hd layer = z31):=Lib.hid (HV.out.trans (if_neg (by rw [HZ.out];exact hr)))
  clear HV hok
  generalize lY s v x t = E at*
  generalize Bp s v x t = V at*
  have hz:(E == 0) = false:=beq_eq_false_iff_ne.2 hr
  have hz2:(E != 0) = true:=by rw [bne,hz];rfl
  clear hr HRV
  have aIA:∀ o_,(W2.alloc o_).cell? ⟨g8,0,none⟩ = some (.int .i64 0):=fun o_=>(aa (ag m8 o_) 0).trans rfl
  have aIB:∀ o_,(W2.alloc o_).frozen? ⟨g8,0,none⟩ = false:=fun o_=>aX (ag m8 o_) 0
  have aIC:∀ o_,(W2.alloc o_).cell? ⟨g8,1,none⟩ = some (.int .i64 0):=fun o_=>(aa (ag m8 o_) 1).trans rfl
  have aID:∀ o_,(W2.alloc o_).frozen? ⟨g8,1,none⟩ = false:=fun o_=>aX (ag m8 o_) 1
  have aIE:∀ o_,(W2.alloc o_).cell? ⟨g8,2,none⟩ = some (.int .i64 0):=fun o_=>(aa (ag m8 o_) 2).trans rfl
  have aIF:∀ o_,(W2.alloc o_).frozen? ⟨g8,2,none⟩ = false:=fun o_=>aX (ag m8 o_) 2
  have aIG:∀ o_,(W2.alloc o_).cell? ⟨g8,3,none⟩ = some (.int .i64 0):=fun o_=>(aa (ag m8 o_) 3).trans rfl
  have aIH:∀ o_,(W2.alloc o_).frozen? ⟨g8,3,none⟩ = false:=fun o_=>aX (ag m8 o_) 3
  go_wp2
  exact bodyPost_ret (lU rfl _ _ g8 31 #[.int .i64 0,.int .i64 0,.int .i64 0,.int .i64 0] (0,0) _ rfl (aI (aI (aI (aI (ag m8 _) 0 (.int .i64 0) rfl) 1 (.int .i64 0) rfl) 2 (.int .i64 0) rfl) 3 (.int .i64 0) rfl) Try.underlying31 rfl aR) rfl ⟨WL,(Below.setCell (p:=⟨g8,3,none⟩) (Below.setCell (p:=⟨g8,2,none⟩) (Below.setCell (p:=⟨g8,1,none⟩) (Below.setCell (p:=⟨g8,0,none⟩) (aY mB _) WS _) WS _) WS _) WS _)⟩
 case pos =>
  obtain ⟨hG,⟨hk0,hk1⟩,_⟩:=hok hr
  clear hok
  have HE2:=Lib.hid (HE.out.trans (if_neg (fun h=>h hr)))
  clear HE
  have aoY:=Lib.hid (HRV.out.trans (if_pos hr))
  clear HRV
  rw [hr,aoY.out]
  clear hr aoY
  have kS:=fun W (h:kZ W b s v)=>ac0 b s v (dB s v x) W h hS.n hG hS.sh
  have kD:=fun W (h:kZ W b s v)=>adu b s v x (dB s v x) t hd layer W h hS.n hV hS.cu hS.cb hx.1 hG hk0 hk1 hh0 Un hl0 hl1
  clear hS hV hx hG hk0 hk1 hh0 Un hl0 hl1
  have hsf:=UM s (dB s v x)
  generalize vX s v x (dB s v x) t hd layer = Y at*
  generalize dB s v x = G at*
  generalize xY s G = F at*
  go_wp2_with fail
  have KQ:=dV m5
  have ady:=dV m7
  have amv:=dV m8
  have m10:iD (W2.alloc (.cells #[.int .i64 G.f0.f0,.int .i64 G.f0.f1,.int .i64 G.f1.f0,.int .i64 G.f1.f1] 31)) (W2.heap.size) #[.int .i64 G.f0.f0,.int .i64 G.f0.f1,.int .i64 G.f1.f0,.int .i64 G.f1.f1] 31:=(by have h_:=fT W2 (.cells #[.int .i64 G.f0.f0,.int .i64 G.f0.f1,.int .i64 G.f1.f0,.int .i64 G.f1.f1] 31);first|exact h_|(simp only [World.size_alloc] at h_;exact h_))
  replace m5:iD (W2.alloc (.cells #[.int .i64 G.f0.f0,.int .i64 G.f0.f1,.int .i64 G.f1.f0,.int .i64 G.f1.f1] 31)) g5 #[.int .i64 x.f0.f0,.int .i64 x.f0.f1,.int .i64 x.f1.f0,.int .i64 x.f1.f1] 31:=(ag m5 _)
  replace m7:iD (W2.alloc (.cells #[.int .i64 G.f0.f0,.int .i64 G.f0.f1,.int .i64 G.f1.f0,.int .i64 G.f1.f1] 31)) g7 #[.int .i64 hd,.int .i64 layer] 33:=(ag m7 _)
  replace m8:iD (W2.alloc (.cells #[.int .i64 G.f0.f0,.int .i64 G.f0.f1,.int .i64 G.f1.f0,.int .i64 G.f1.f1] 31)) g8 #[.int .i64 0,.int .i64 0,.int .i64 0,.int .i64 0] 31:=(ag m8 _)
  replace mB:Below w.heap.size w (W2.alloc (.cells #[.int .i64 G.f0.f0,.int .i64 G.f0.f1,.int .i64 G.f1.f0,.int .i64 G.f1.f1] 31)):=(aY mB _)
  have nK:w.heap.size≤W2.heap.size:=x9
  generalize xV:(W2.alloc (.cells #[.int .i64 G.f0.f0,.int .i64 G.f0.f1,.int .i64 G.f1.f0,.int .i64 G.f1.f1] 31)) = W3 at m5 m7 m8 m10 mB ⊢
  clear xV
  generalize WI:W2.heap.size = g10 at m10 ⊢
  have mK:g5≠g10:=by omega
  have IE:g7≠g10:=by omega
  have aga:g8≠g10:=by omega
  have Rh:g10≠g5:=mK.symm
  have Yt:g10≠g7:=IE.symm
  have auE:g10≠g8:=aga.symm
  have nX:w.heap.size≤g10:=by omega
  clear nK KQ ady amv
  try clear WI
  have LW:w.heap.size≤W3.heap.size:=mB.size
  have hcon:=kS W3 (hT.below mB)
  (with_reducible refine hcon.mono ?_)
  clear hcon
  rintro e W4 ⟨rfl,hb⟩
  replace m5:=aV m5 hb
  replace m7:=aV m7 hb
  replace m8:=aV m8 hb
  replace m10:=aV m10 hb
  replace mB:=dY mB hb
  clear hb
  have UJ:w.heap.size≤W4.heap.size:=mB.size
  clear kS
  rcases hsf with rfl|rfl
  case inr =>
   have HZ:Hid (mO s v x t = 21):=Lib.hid (HE2.out)
   try clear HE
   have HV2:Hid (kY s v x t hd layer = z31):=Lib.hid (HV.out.trans (if_neg (by rw [HZ.out];decide)))
   clear HV
   obtain ⟨aoZ,ao0,aCL,aCM,ao1,ao2,aCN,aCO⟩:=iC m8
   go_wp2
   exact bodyPost_ret (lU rfl _ _ g8 31 #[.int .i64 0,.int .i64 0,.int .i64 0,.int .i64 0] (0,0) _ rfl (aI (aI (aI (aI m8 0 (.int .i64 0) rfl) 1 (.int .i64 0) rfl) 2 (.int .i64 0) rfl) 3 (.int .i64 0) rfl) Try.underlying31 rfl aR) rfl ⟨WL,(Below.setCell (p:=⟨g8,3,none⟩) (Below.setCell (p:=⟨g8,2,none⟩) (Below.setCell (p:=⟨g8,1,none⟩) (Below.setCell (p:=⟨g8,0,none⟩) mB WS _) WS _) WS _) WS _)⟩
  case inl =>
   have HV2:=Lib.hid (HV.out.trans (if_pos HE2.out))
   clear HV
   obtain ⟨Ir,KS,Ru,Rv⟩:=rV m5
   obtain ⟨WT,WU⟩:=II m7
   obtain ⟨Iu,Iw,Iy,Iz⟩:=rV m10
   go_wp2_with fail
   clear Ir KS Ru Rv WT WU Iu Iw Iy Iz
   have hcon:=kD W4 (hT.below mB)
   (with_reducible refine hcon.mono ?_)
   clear hcon
   rintro e W5 ⟨rfl,hb⟩
   replace m5:=aV m5 hb
   replace m7:=aV m7 hb
   replace m8:=aV m8 hb
   replace m10:=aV m10 hb
   replace mB:=dY mB hb
   clear hb
   have adr:w.heap.size≤W5.heap.size:=mB.size
   clear kD
   obtain ⟨aoZ,ao0,aCL,aCM,ao1,ao2,aCN,aCO⟩:=iC m8
   go_wp2
   exact bodyPost_ret (lU rfl _ _ g8 31 #[.int .i64 Y.f0.f0,.int .i64 Y.f0.f1,.int .i64 Y.f1.f0,.int .i64 Y.f1.f1] (0,0) _ rfl (aI (aI (aI (aI m8 0 (.int .i64 Y.f0.f0) rfl) 1 (.int .i64 Y.f0.f1) rfl) 2 (.int .i64 Y.f1.f0) rfl) 3 (.int .i64 Y.f1.f1) rfl) Try.underlying31 rfl aR) rfl ⟨by rw [HV2.out,HE2.out];rfl,(Below.setCell (p:=⟨g8,3,none⟩) (Below.setCell (p:=⟨g8,2,none⟩) (Below.setCell (p:=⟨g8,1,none⟩) (Below.setCell (p:=⟨g8,0,none⟩) mB WS _) WS _) WS _) WS _)⟩
end Go.Proofs.Ytmhaiihjfgfaoaa.Gl
end
section
namespace Go.Proofs.Ytmhaiihjfgfaoaa.Pr
open Go.RowKit Go.Proofs.YtmhaiihjfgfaoaaW.PrintWords Go.Proofs.YtmhaiihjfgfaoaaW.PrintLast Go.Proofs.YtmhaiihjfgfaoaaW.PrintMore
attribute [local go_sem] cz cB dK dL cK
set_option linter.unusedVariables false
set_option linter.unusedSimpArgs false
def dN.f (a0:Int):Option (Int):=some (mx a0 (wrap64 (-a0)))
set_option maxHeartbeats 8000000 in
set_option maxRecDepth 100000 in
theorem dN.calls (a0:Int) (r:Int) (w:World) (h:dN.f a0 = some r):
 Calls Try.prog 117 #[.int .i64 a0] w fun e w'=>e = .returned (.int .i64 r)∧Below w.heap.size w w':=by
 have HB:=ae.mk (Below.refl w.heap.size w)
 have H:(some (mx a0 (wrap64 (-a0)))) = some r:=h
 clear h
 obtain ⟨ji2,agb⟩:∃ j_:Int,(mx a0 (wrap64 (-a0))) = j_:=⟨_,rfl⟩
 replace H:(some ji2) = some r:=by first|(rw [agb] at H;exact H)|(simp only [agb] at H ⊢;exact H)
 have aEO:(if a0 < (wrap64 (-a0)) then (wrap64 (-a0)) else a0) = ji2:=agb
 obtain rfl:=Option.some.inj H
 go_enter Try.func117,Try.ntmps117
 go_wp2
 go_ret
 exact ⟨by first|rfl|(simp [kr,ku] <;> rfl)|(simp only [← agb];first|rfl|(simp [kr,ku] <;> rfl))|(simp [*,kr,ku] <;> rfl),gM⟩
end Go.Proofs.Ytmhaiihjfgfaoaa.Pr
end
section
namespace Go.Proofs.Ytmhaiihjfgfaoaa.Pr
open Go.RowKit Go.Proofs.YtmhaiihjfgfaoaaW.PrintWords Go.Proofs.YtmhaiihjfgfaoaaW.PrintLast Go.Proofs.YtmhaiihjfgfaoaaW.PrintMore
attribute [local go_sem] cz cB dK dL cK
set_option linter.unusedVariables false
set_option linter.unusedSimpArgs false
def fw.f (k:Nat) (aj:Int) (ak:Int) (ax:Int) (ay:Int):Option (Int):=(dO.f k (([(⟨aj,ak⟩:nD),(⟨ax,ay⟩:nD)]:List (nD)))).bind fun t148=>(if t148 = 0 then ((dN.f aj).bind fun t149=>((dN.f ak).bind fun t150=>((dN.f ax).bind fun t151=>((dN.f ay).bind fun t152=>(if (mx (mx (mx t149 t150) t151) t152) > 268435456 then (some 2) else (some 0)))))) else (some t148))
def fw.T4:Bool × List (List Nat × List Nat):=(true,[([],[]),([0],[0]),([1],[1]),([2],[2]),([],[]),([4],[4]),([5],[5]),([6,3],[6]),([],[]),([8],[8]),([9],[9]),([10,7],[10]),([],[]),([12],[12]),([13],[13]),([14,11],[14]),([3,7,11,15],[3,7,11,15]),([16],[16])])
def fw.B4:List Nat:=[0,1,3,7,0,16,48,127,0,256,768,2047,0,4096,12288,32767,65535,131071]
theorem fw.abw:oQ .any (opsOf Try.f67 4) = fw.T4:=by kernel_rfl
theorem fw.Qy:lI fw.T4.2 fw.B4 = true:=by kernel_rfl
set_option maxHeartbeats 8000000 in
set_option maxRecDepth 100000 in
theorem fw.calls (k:Nat) (aj:Int) (ak:Int) (ax:Int) (ay:Int) (r:Int) (w:World) (h:fw.f k aj ak ax ay = some r):
 Calls Try.prog 67 #[.agg #[.int .i64 aj,.int .i64 ak,.int .i64 ax,.int .i64 ay]] w fun e w'=>e = .returned (.int .i64 r)∧Below w.heap.size w w':=by
 have qP:=Try.underlying31
 have pK:=Try.underlying27
 have HB:=ae.mk (Below.refl w.heap.size w)
 have H:((dO.f k (([(⟨aj,ak⟩:nD),(⟨ax,ay⟩:nD)]:List (nD)))).bind fun t148=>(if t148 = 0 then ((dN.f aj).bind fun t149=>((dN.f ak).bind fun t150=>((dN.f ax).bind fun t151=>((dN.f ay).bind fun t152=>(if (mx (mx (mx t149 t150) t151) t152) > 268435456 then (some 2) else (some 0)))))) else (some t148))) = some r:=h
 clear h
 obtain ⟨WV,UO⟩:∃ y_:List (nD),y_ = (([(⟨aj,ak⟩:nD),(⟨ax,ay⟩:nD)]:List (nD))):=⟨_,rfl⟩
 replace H:((dO.f k WV).bind fun t148=>(if t148 = 0 then ((dN.f aj).bind fun t149=>((dN.f ak).bind fun t150=>((dN.f ax).bind fun t151=>((dN.f ay).bind fun t152=>(if (mx (mx (mx t149 t150) t151) t152) > 268435456 then (some 2) else (some 0)))))) else (some t148))) = some r:=by first|(rw [UO];with_reducible exact H)|(have KU:=(Option.bind_some _ _).symm.trans H;rw [UO];with_reducible exact KU)|(have KU:=(Option.bind_some _ _).symm.trans H;with_reducible exact KU)|with_reducible exact H|(rw [UO];exact H)|exact H
 have Qz:=ae.mk UO
 clear UO
 replace H:=Option.bind_eq_some_iff.mp H
 obtain ⟨t148,Yu,H⟩:=H
 replace H:(if t148 = 0 then ((dN.f aj).bind fun t149=>((dN.f ak).bind fun t150=>((dN.f ax).bind fun t151=>((dN.f ay).bind fun t152=>(if (mx (mx (mx t149 t150) t151) t152) > 268435456 then (some 2) else (some 0)))))) else (some t148)) = some r:=H
 have A2:=ae.mk Yu
 clear Yu
 by_cases c3:t148 = 0
 ·rw [if_pos c3] at H
  have Db:(t148 == 0) = true:=beq_iff_eq.mpr c3
  have UQ:(t148 != 0) = false:=bne_eq_false_iff_eq.mpr c3
  clear c3
  replace H:=Option.bind_eq_some_iff.mp H
  obtain ⟨t149,LX,H⟩:=H
  replace H:((dN.f ak).bind fun t150=>((dN.f ax).bind fun t151=>((dN.f ay).bind fun t152=>(if (mx (mx (mx t149 t150) t151) t152) > 268435456 then (some 2) else (some 0))))) = some r:=H
  have A4:=ae.mk LX
  clear LX
  replace H:=Option.bind_eq_some_iff.mp H
  obtain ⟨t150,OX,H⟩:=H
  replace H:((dN.f ax).bind fun t151=>((dN.f ay).bind fun t152=>(if (mx (mx (mx t149 t150) t151) t152) > 268435456 then (some 2) else (some 0)))) = some r:=H
  have A5:=ae.mk OX
  clear OX
  replace H:=Option.bind_eq_some_iff.mp H
  obtain ⟨t151,KI,H⟩:=H
  replace H:((dN.f ay).bind fun t152=>(if (mx (mx (mx t149 t150) t151) t152) > 268435456 then (some 2) else (some 0))) = some r:=H
  have A6:=ae.mk KI
  clear KI
  replace H:=Option.bind_eq_some_iff.mp H
  obtain ⟨t152,A70,H⟩:=H
  replace H:(if (mx (mx (mx t149 t150) t151) t152) > 268435456 then (some 2) else (some 0)) = some r:=H
  have A7:=ae.mk A70
  clear A70
  obtain ⟨ji8,Rw⟩:∃ j_:Int,(mx t149 t150) = j_:=⟨_,rfl⟩
  replace H:(if (mx (mx (ji8) t151) t152) > 268435456 then (some 2) else (some 0)) = some r:=by first|(rw [Rw] at H;exact H)|(simp only [Rw] at H ⊢;exact H)
  (try rw [Rw] at A2)
  (try rw [Rw] at A4)
  (try rw [Rw] at A5)
  (try rw [Rw] at A6)
  (try rw [Rw] at A7)
  have aEP:(if t149 < t150 then t150 else t149) = ji8:=Rw
  obtain ⟨ji9,Rx⟩:∃ j_:Int,(mx (ji8) t151) = j_:=⟨_,rfl⟩
  replace H:(if (mx (ji9) t152) > 268435456 then (some 2) else (some 0)) = some r:=by first|(rw [Rx] at H;exact H)|(simp only [Rx] at H ⊢;exact H)
  (try rw [Rx] at A2)
  (try rw [Rx] at A4)
  (try rw [Rx] at A5)
  (try rw [Rx] at A6)
  (try rw [Rx] at A7)
  have aEQ:(if (ji8) < t151 then t151 else (ji8)) = ji9:=Rx
  obtain ⟨adz,IJ⟩:∃ j_:Int,(mx (ji9) t152) = j_:=⟨_,rfl⟩
  replace H:(if (adz) > 268435456 then (some 2) else (some 0)) = some r:=by first|(rw [IJ] at H;exact H)|(simp only [IJ] at H ⊢;exact H)
  (try rw [IJ] at A2)
  (try rw [IJ] at A4)
  (try rw [IJ] at A5)
  (try rw [IJ] at A6)
  (try rw [IJ] at A7)
  have aCP:(if (ji9) < t152 then t152 else (ji9)) = adz:=IJ
  by_cases c11:(adz) > 268435456
  ·rw [if_pos c11] at H
   have IK:decide (268435456 < (adz)) = true:=decide_eq_true c11
   clear c11
   obtain rfl:=Option.some.inj H
   go_enter Try.func67,Try.ntmps67
   try go_wp2_with (first|((with_reducible refine aA (N:=1) rfl ?_);refine az (by rfl) (N:=1) (by rfl) (cs:=#[.int .i64 aj,.int .i64 ak,.int .i64 ax,.int .i64 ay]) (t:=31) gQ ?_;intro GA hg MC hbox hb;have jh:=ae.mk (hbox);have akD:=dn HB hg;have akE:=dn HB hg;replace HB:=dF HB hb;clear hb hbox hg;obtain ⟨uW,uX,Bt,Bu,uY,uZ,Bv,Bw⟩:=iC jh.out)|((with_reducible refine aA (N:=8) rfl ?_);refine Kd.Dh k27 _ 27 (by rfl) (N:=8) (by rfl) (xs:=([(⟨aj,ak⟩:nD),(⟨ax,ay⟩:nD)]:List (nD))) (inner:=[.int .i64 aj,.int .i64 ak,.int .i64 ax,.int .i64 ay]) (ok:=fun _=>True) (okp:=fun _=>True) gQ amw (fun _ hk=>hk) trivial (Below.refl _ _) (Nat.le_refl _) (by simp) ?_;intro v146 w14 adA hb PV qy;clear PV qy;(first|rw [← Qz.out] at adA|(simp only [Int.reduceToNat] at adA;rw [← Qz.out] at adA));have kE:=ae.mk (Kd.lH adA (iG gM));replace jh:=bC jh hb;replace HB:=dF HB hb;clear hb adA;obtain ⟨aCQ,aCR,aCS⟩:=Kd.ma kE.out;subst aCS)|((with_reducible refine aW (f:=116) rfl ?_);refine dM (some 9) rfl rfl Try.func116 aR rfl #[.slice aCQ WV.length aCR] rfl jJ ?_;(with_reducible refine (dO.calls k _ _ WV t148 _ ?dz ?dA A2.out).mono ?_);(case dz=>repeat (first|exact (Kd.iL kE.out).2.2|(with_reducible refine Kd.bA ?_ _)|(with_reducible refine Kd.bB ?_ _)|(with_reducible refine Kd.bK ?_)));(case dA=>exact (Kd.iL kE.out).2.1);rintro e Ac ⟨rfl,hb⟩;refine ⟨_,rfl,?_⟩;replace kE:=xB kE hb;replace jh:=bC jh hb;replace HB:=dF HB hb;(try clear hb);(try clear hb2);(try clear hk);(try clear hi)))
   replace kE:=ae.mk (Kd.jo kE.out)
   replace jh:=ae.mk (ah jh.out)
   replace HB:=ae.mk (bW HB.out)
   refine jI (n:=18) (S:=fun w'=>w'.cell? ⟨GA,0,none⟩ = some (.int .i64 aj)∧w'.cell? ⟨GA,1,none⟩ = some (.int .i64 ak)∧w'.cell? ⟨GA,2,none⟩ = some (.int .i64 ax)∧w'.cell? ⟨GA,3,none⟩ = some (.int .i64 ay)) (ds:=[]) #[false,false,false,false,false,false,false,false,false,false,false,false,false,false,false,false,false,false] aR rfl rfl (rV jh.out) (fun hHeld=>?_);refine iM fw.abw fw.Qy (fun bN jX=>?_)
   generalize Ac.drew = w18 at kE jh HB hHeld ⊢
   refine dJ (i:=0) (N:=some 13) (aD bN.out aR) ?_
   refine dJ (i:=1) (N:=some 14) (aD bN.out aR) ?_
   refine dJ (i:=4) (N:=some 17) (aD bN.out aR) ?_
   refine dJ (i:=5) (N:=some 18) (aD bN.out aR) ?_
   refine dJ (i:=8) (N:=some 21) (aD bN.out aR) ?_
   refine dJ (i:=9) (N:=some 22) (aD bN.out aR) ?_
   refine dJ (i:=12) (N:=some 25) (aD bN.out aR) ?_
   refine dJ (i:=13) (N:=some 26) (aD bN.out aR) ?_
   refine ja (i:=2) (N:=some 15) (bq bN.out jX.out aR) hHeld ?_
   refine ja (i:=6) (N:=some 19) (bq bN.out jX.out aR) hHeld ?_
   refine ja (i:=10) (N:=some 23) (bq bN.out jX.out aR) hHeld ?_
   refine ja (i:=14) (N:=some 27) (bq bN.out jX.out aR) hHeld ?_
   refine jq (i:=3) (N:=some 16) #[true,true,true,true,true,true,true,false,true,true,true,false,true,true,true,false,false,false] rfl rfl (fE bN.out aR) (by decide) (fun K hK=>?_)
   refine gV Try.func117 aR rfl #[.int .i64 aj] (by rfl) rfl rfl jJ ?_
   with_reducible refine (dN.calls aj t149 _ A4.out).mono ?_
   rintro e w19 ⟨rfl,hb⟩
   refine ⟨_,rfl,?_⟩
   replace kE:=xB kE hb
   replace jh:=bC jh hb
   replace HB:=dF HB hb
   (try clear hb)
   (try clear hb2)
   (try clear hk)
   (try clear hi)
   refine hK.out _ _ (rV jh.out) (fun hHeld=>?_)
   clear hK K
   refine ek abp ?_
   refine jq (i:=7) (N:=some 20) #[true,true,true,true,true,true,true,true,true,true,true,false,true,true,true,false,false,false] rfl rfl (fE bN.out aR) (by decide) (fun K hK=>?_)
   refine gV Try.func117 aR rfl #[.int .i64 ak] (by rfl) rfl rfl jJ ?_
   with_reducible refine (dN.calls ak t150 _ A5.out).mono ?_
   rintro e D7 ⟨rfl,hb⟩
   refine ⟨_,rfl,?_⟩
   replace kE:=xB kE hb
   replace jh:=bC jh hb
   replace HB:=dF HB hb
   (try clear hb)
   (try clear hb2)
   (try clear hk)
   (try clear hi)
   refine hK.out _ _ (rV jh.out) (fun hHeld=>?_)
   clear hK K
   refine ek ao6 ?_
   refine jq (i:=11) (N:=some 24) #[true,true,true,true,true,true,true,true,true,true,true,true,true,true,true,false,false,false] rfl rfl (fE bN.out aR) (by decide) (fun K hK=>?_)
   refine gV Try.func117 aR rfl #[.int .i64 ax] (by rfl) rfl rfl jJ ?_
   with_reducible refine (dN.calls ax t151 _ A6.out).mono ?_
   rintro e w21 ⟨rfl,hb⟩
   refine ⟨_,rfl,?_⟩
   replace kE:=xB kE hb
   replace jh:=bC jh hb
   replace HB:=dF HB hb
   (try clear hb)
   (try clear hb2)
   (try clear hk)
   (try clear hi)
   refine hK.out _ _ (rV jh.out) (fun hHeld=>?_)
   clear hK K
   refine ek age ?_
   refine jq (i:=15) (N:=some 28) #[true,true,true,true,true,true,true,true,true,true,true,true,true,true,true,true,false,false] rfl rfl (fE bN.out aR) (by decide) (fun K hK=>?_)
   refine gV Try.func117 aR rfl #[.int .i64 ay] (by rfl) rfl rfl jJ ?_
   with_reducible refine (dN.calls ay t152 _ A7.out).mono ?_
   rintro e w22 ⟨rfl,hb⟩
   refine ⟨_,rfl,?_⟩
   replace kE:=xB kE hb
   replace jh:=bC jh hb
   replace HB:=dF HB hb
   (try clear hb)
   (try clear hb2)
   (try clear hk)
   (try clear hi)
   refine hK.out _ _ (rV jh.out) (fun hHeld=>?_)
   clear hK K
   refine ek ao7 ?_
   refine dJ (i:=16) (N:=some 29) (aD bN.out aR) ?_
   refine dJ (i:=17) (N:=some 30) (aD bN.out aR) ?_
   refine lC (kF bN.out aR) ?_
   try go_wp2
   go_ret
   exact ⟨ao8,gM⟩
  ·rw [if_neg c11] at H
   have IK:decide (268435456 < (adz)) = false:=decide_eq_false c11
   clear c11
   obtain rfl:=Option.some.inj H
   go_enter Try.func67,Try.ntmps67
   try go_wp2_with (first|((with_reducible refine aA (N:=1) rfl ?_);refine az (by rfl) (N:=1) (by rfl) (cs:=#[.int .i64 aj,.int .i64 ak,.int .i64 ax,.int .i64 ay]) (t:=31) gQ ?_;intro GA hg w23 hbox hb;have jh:=ae.mk (hbox);have akD:=dn HB hg;have akE:=dn HB hg;replace HB:=dF HB hb;clear hb hbox hg;obtain ⟨wC,wD,yh,yj,wE,wF,yl,ym⟩:=iC jh.out)|((with_reducible refine aA (N:=8) rfl ?_);refine Kd.Dh k27 _ 27 (by rfl) (N:=8) (by rfl) (xs:=([(⟨aj,ak⟩:nD),(⟨ax,ay⟩:nD)]:List (nD))) (inner:=[.int .i64 aj,.int .i64 ak,.int .i64 ax,.int .i64 ay]) (ok:=fun _=>True) (okp:=fun _=>True) gQ amw (fun _ hk=>hk) trivial (Below.refl _ _) (Nat.le_refl _) (by simp) ?_;intro v146 w25 adB hb PV qy;clear PV qy;(first|rw [← Qz.out] at adB|(simp only [Int.reduceToNat] at adB;rw [← Qz.out] at adB));have kE:=ae.mk (Kd.lH adB (iG gM));replace jh:=bC jh hb;replace HB:=dF HB hb;clear hb adB;obtain ⟨aCT,aCU,aCV⟩:=Kd.ma kE.out;subst aCV)|((with_reducible refine aW (f:=116) rfl ?_);refine dM (some 9) rfl rfl Try.func116 aR rfl #[.slice aCT WV.length aCU] rfl jJ ?_;(with_reducible refine (dO.calls k _ _ WV t148 _ ?dz ?dA A2.out).mono ?_);(case dz=>repeat (first|exact (Kd.iL kE.out).2.2|(with_reducible refine Kd.bA ?_ _)|(with_reducible refine Kd.bB ?_ _)|(with_reducible refine Kd.bK ?_)));(case dA=>exact (Kd.iL kE.out).2.1);rintro e w28 ⟨rfl,hb⟩;refine ⟨_,rfl,?_⟩;replace kE:=xB kE hb;replace jh:=bC jh hb;replace HB:=dF HB hb;(try clear hb);(try clear hb2);(try clear hk);(try clear hi)))
   replace kE:=ae.mk (Kd.jo kE.out)
   replace jh:=ae.mk (ah jh.out)
   replace HB:=ae.mk (bW HB.out)
   refine jI (n:=18) (S:=fun w'=>w'.cell? ⟨GA,0,none⟩ = some (.int .i64 aj)∧w'.cell? ⟨GA,1,none⟩ = some (.int .i64 ak)∧w'.cell? ⟨GA,2,none⟩ = some (.int .i64 ax)∧w'.cell? ⟨GA,3,none⟩ = some (.int .i64 ay)) (ds:=[]) #[false,false,false,false,false,false,false,false,false,false,false,false,false,false,false,false,false,false] aR rfl rfl (rV jh.out) (fun hHeld=>?_);refine iM fw.abw fw.Qy (fun bN jX=>?_)
   generalize w28.drew = w29 at kE jh HB hHeld ⊢
   refine dJ (i:=0) (N:=some 13) (aD bN.out aR) ?_
   refine dJ (i:=1) (N:=some 14) (aD bN.out aR) ?_
   refine dJ (i:=4) (N:=some 17) (aD bN.out aR) ?_
   refine dJ (i:=5) (N:=some 18) (aD bN.out aR) ?_
   refine dJ (i:=8) (N:=some 21) (aD bN.out aR) ?_
   refine dJ (i:=9) (N:=some 22) (aD bN.out aR) ?_
   refine dJ (i:=12) (N:=some 25) (aD bN.out aR) ?_
   refine dJ (i:=13) (N:=some 26) (aD bN.out aR) ?_
   refine ja (i:=2) (N:=some 15) (bq bN.out jX.out aR) hHeld ?_
   refine ja (i:=6) (N:=some 19) (bq bN.out jX.out aR) hHeld ?_
   refine ja (i:=10) (N:=some 23) (bq bN.out jX.out aR) hHeld ?_
   refine ja (i:=14) (N:=some 27) (bq bN.out jX.out aR) hHeld ?_
   refine jq (i:=3) (N:=some 16) #[true,true,true,true,true,true,true,false,true,true,true,false,true,true,true,false,false,false] rfl rfl (fE bN.out aR) (by decide) (fun K hK=>?_)
   refine gV Try.func117 aR rfl #[.int .i64 aj] (by rfl) rfl rfl jJ ?_
   with_reducible refine (dN.calls aj t149 _ A4.out).mono ?_
   rintro e w30 ⟨rfl,hb⟩
   refine ⟨_,rfl,?_⟩
   replace kE:=xB kE hb
   replace jh:=bC jh hb
   replace HB:=dF HB hb
   (try clear hb)
   (try clear hb2)
   (try clear hk)
   (try clear hi)
   refine hK.out _ _ (rV jh.out) (fun hHeld=>?_)
   clear hK K
   refine ek abp ?_
   refine jq (i:=7) (N:=some 20) #[true,true,true,true,true,true,true,true,true,true,true,false,true,true,true,false,false,false] rfl rfl (fE bN.out aR) (by decide) (fun K hK=>?_)
   refine gV Try.func117 aR rfl #[.int .i64 ak] (by rfl) rfl rfl jJ ?_
   with_reducible refine (dN.calls ak t150 _ A5.out).mono ?_
   rintro e w31 ⟨rfl,hb⟩
   refine ⟨_,rfl,?_⟩
   replace kE:=xB kE hb
   replace jh:=bC jh hb
   replace HB:=dF HB hb
   (try clear hb)
   (try clear hb2)
   (try clear hk)
   (try clear hi)
   refine hK.out _ _ (rV jh.out) (fun hHeld=>?_)
   clear hK K
   refine ek ao6 ?_
   refine jq (i:=11) (N:=some 24) #[true,true,true,true,true,true,true,true,true,true,true,true,true,true,true,false,false,false] rfl rfl (fE bN.out aR) (by decide) (fun K hK=>?_)
   refine gV Try.func117 aR rfl #[.int .i64 ax] (by rfl) rfl rfl jJ ?_
   with_reducible refine (dN.calls ax t151 _ A6.out).mono ?_
   rintro e w32 ⟨rfl,hb⟩
   refine ⟨_,rfl,?_⟩
   replace kE:=xB kE hb
   replace jh:=bC jh hb
   replace HB:=dF HB hb
   (try clear hb)
   (try clear hb2)
   (try clear hk)
   (try clear hi)
   refine hK.out _ _ (rV jh.out) (fun hHeld=>?_)
   clear hK K
   refine ek age ?_
   refine jq (i:=15) (N:=some 28) #[true,true,true,true,true,true,true,true,true,true,true,true,true,true,true,true,false,false] rfl rfl (fE bN.out aR) (by decide) (fun K hK=>?_)
   refine gV Try.func117 aR rfl #[.int .i64 ay] (by rfl) rfl rfl jJ ?_
   with_reducible refine (dN.calls ay t152 _ A7.out).mono ?_
   rintro e Df ⟨rfl,hb⟩
   refine ⟨_,rfl,?_⟩
   replace kE:=xB kE hb
   replace jh:=bC jh hb
   replace HB:=dF HB hb
   (try clear hb)
   (try clear hb2)
   (try clear hk)
   (try clear hi)
   refine hK.out _ _ (rV jh.out) (fun hHeld=>?_)
   clear hK K
   refine ek ao7 ?_
   refine dJ (i:=16) (N:=some 29) (aD bN.out aR) ?_
   refine dJ (i:=17) (N:=some 30) (aD bN.out aR) ?_
   refine lC (kF bN.out aR) ?_
   try go_wp2
   go_ret
   exact ⟨ao8,gM⟩
 ·rw [if_neg c3] at H
  have Db:(t148 == 0) = false:=beq_eq_false_iff_ne.mpr c3
  have UQ:(t148 != 0) = true:=bne_iff_ne.mpr c3
  obtain rfl:=Option.some.inj H
  go_enter Try.func67,Try.ntmps67
  go_wp2_with (first|((with_reducible refine aA (N:=1) rfl ?_);refine az (by rfl) (N:=1) (by rfl) (cs:=#[.int .i64 aj,.int .i64 ak,.int .i64 ax,.int .i64 ay]) (t:=31) gQ ?_;intro GA hg w34 hbox hb;have jh:=ae.mk (hbox);have akD:=dn HB hg;have akE:=dn HB hg;replace HB:=dF HB hb;clear hb hbox hg;obtain ⟨Bz,BA,D8,D9,BC,BD,Ea,Eb⟩:=iC jh.out)|((with_reducible refine aA (N:=8) rfl ?_);refine Kd.Dh k27 _ 27 (by rfl) (N:=8) (by rfl) (xs:=([(⟨aj,ak⟩:nD),(⟨ax,ay⟩:nD)]:List (nD))) (inner:=[.int .i64 aj,.int .i64 ak,.int .i64 ax,.int .i64 ay]) (ok:=fun _=>True) (okp:=fun _=>True) gQ amw (fun _ hk=>hk) trivial (Below.refl _ _) (Nat.le_refl _) (by simp) ?_;intro v146 w36 adC hb PV qy;clear PV qy;(first|rw [← Qz.out] at adC|(simp only [Int.reduceToNat] at adC;rw [← Qz.out] at adC));have kE:=ae.mk (Kd.lH adC (iG gM));replace jh:=bC jh hb;replace HB:=dF HB hb;clear hb adC;obtain ⟨aCX,aCY,aCZ⟩:=Kd.ma kE.out;subst aCZ)|((with_reducible refine aW (f:=116) rfl ?_);refine dM (some 9) rfl rfl Try.func116 aR rfl #[.slice aCX WV.length aCY] rfl jJ ?_;(with_reducible refine (dO.calls k _ _ WV t148 _ ?dz ?dA A2.out).mono ?_);(case dz=>repeat (first|exact (Kd.iL kE.out).2.2|(with_reducible refine Kd.bA ?_ _)|(with_reducible refine Kd.bB ?_ _)|(with_reducible refine Kd.bK ?_)));(case dA=>exact (Kd.iL kE.out).2.1);rintro e w39 ⟨rfl,hb⟩;refine ⟨_,rfl,?_⟩;replace kE:=xB kE hb;replace jh:=bC jh hb;replace HB:=dF HB hb;(try clear hb);(try clear hb2);(try clear hk);(try clear hi)))
  go_ret
  exact ⟨lJ,gM⟩
end Go.Proofs.Ytmhaiihjfgfaoaa.Pr
end
section
namespace Go.Proofs.Ytmhaiihjfgfaoaa.Pr
open Go.RowKit Go.Proofs.YtmhaiihjfgfaoaaW.PrintWords Go.Proofs.YtmhaiihjfgfaoaaW.PrintLast Go.Proofs.YtmhaiihjfgfaoaaW.PrintMore
attribute [local go_sem] cz cB dK dL cK
set_option linter.unusedVariables false
set_option linter.unusedSimpArgs false
def mQ.f (k:Nat) (aj:Int) (ak:Int) (ax:Int) (ay:Int) (a1:Int):Option (Int):=(fw.f k aj ak ax ay).bind fun t154=>(if t154 = 0 then ((bO.f a1 0 1073741824).bind fun t155=>(if t155 = true then (some 0) else (some 3))) else (some t154))
set_option maxHeartbeats 8000000 in
set_option maxRecDepth 100000 in
theorem mQ.calls (k:Nat) (aj:Int) (ak:Int) (ax:Int) (ay:Int) (a1:Int) (r:Int) (w:World) (h:mQ.f k aj ak ax ay a1 = some r):
 Calls Try.prog 114 #[.agg #[.int .i64 aj,.int .i64 ak,.int .i64 ax,.int .i64 ay],.int .i64 a1] w fun e w'=>e = .returned (.int .i64 r)∧Below w.heap.size w w':=by
 have qP:=Try.underlying31
 have HB:=ae.mk (Below.refl w.heap.size w)
 have H:((fw.f k aj ak ax ay).bind fun t154=>(if t154 = 0 then ((bO.f a1 0 1073741824).bind fun t155=>(if t155 = true then (some 0) else (some 3))) else (some t154))) = some r:=h
 clear h
 replace H:=Option.bind_eq_some_iff.mp H
 obtain ⟨t154,QA,H⟩:=H
 replace H:(if t154 = 0 then ((bO.f a1 0 1073741824).bind fun t155=>(if t155 = true then (some 0) else (some 3))) else (some t154)) = some r:=H
 have A3:=ae.mk QA
 clear QA
 by_cases c4:t154 = 0
 ·rw [if_pos c4] at H
  have rW:(t154 == 0) = true:=beq_iff_eq.mpr c4
  have amA:(t154 != 0) = false:=bne_eq_false_iff_eq.mpr c4
  clear c4
  replace H:=Option.bind_eq_some_iff.mp H
  obtain ⟨t155,OX,H⟩:=H
  replace H:(if t155 = true then (some 0) else (some 3)) = some r:=H
  have A5:=ae.mk OX
  clear OX
  by_cases c6:t155 = true
  ·subst c6
   have H1:(some 0) = some r:=by rw [if_pos rfl] at H;exact H
   clear H
   have H:=H1
   clear H1
   obtain rfl:=Option.some.inj H
   go_enter Try.func114,Try.ntmps114
   go_wp2_with (first|((with_reducible refine aA (N:=2) rfl ?_);refine az (by rfl) (N:=2) (by rfl) (cs:=#[.int .i64 aj,.int .i64 ak,.int .i64 ax,.int .i64 ay]) (t:=31) gQ ?_;intro akG hg w7 hbox hb;have Dn:=ae.mk (hbox);have akH:=dn HB hg;have akI:=dn HB hg;replace HB:=dF HB hb;clear hb hbox hg;obtain ⟨GQ,GR,Ry,Rz,GU,GV,RA,RB⟩:=iC Dn.out)|((with_reducible refine aW (f:=67) rfl ?_);refine dM (some 7) rfl rfl Try.func67 aR rfl #[.agg #[.int .i64 aj,.int .i64 ak,.int .i64 ax,.int .i64 ay]] rfl jJ ?_;(with_reducible refine (fw.calls k aj ak ax ay t154 _ A3.out).mono ?_);rintro e w9 ⟨rfl,hb⟩;refine ⟨_,rfl,?_⟩;replace Dn:=bC Dn hb;replace HB:=dF HB hb;(try clear hb);(try clear hb2);(try clear hk);(try clear hi))|((with_reducible refine aW (f:=74) rfl ?_);refine dM (some 12) rfl rfl Try.func74 aR rfl #[.int .i64 a1,.int .i64 0,.int .i64 1073741824] rfl jJ ?_;(with_reducible refine (bO.calls a1 0 1073741824 true _ A5.out).mono ?_);rintro e w' ⟨rfl,⟨nd,rfl⟩⟩;refine ⟨_,rfl,?_⟩))
   go_ret
   exact ⟨lJ,gM⟩
  ·replace c6:=Bool.eq_false_iff.mpr c6
   subst c6
   have H1:(some 3) = some r:=by rw [if_neg (show ¬ (false = true) by decide)] at H;exact H
   clear H
   have H:=H1
   clear H1
   obtain rfl:=Option.some.inj H
   go_enter Try.func114,Try.ntmps114
   go_wp2_with (first|((with_reducible refine aA (N:=2) rfl ?_);refine az (by rfl) (N:=2) (by rfl) (cs:=#[.int .i64 aj,.int .i64 ak,.int .i64 ax,.int .i64 ay]) (t:=31) gQ ?_;intro akG hg w10 hbox hb;have Dn:=ae.mk (hbox);have akH:=dn HB hg;have akI:=dn HB hg;replace HB:=dF HB hb;clear hb hbox hg;obtain ⟨yn,yo,BF,BG,yt,yu,BH,BI⟩:=iC Dn.out)|((with_reducible refine aW (f:=67) rfl ?_);refine dM (some 7) rfl rfl Try.func67 aR rfl #[.agg #[.int .i64 aj,.int .i64 ak,.int .i64 ax,.int .i64 ay]] rfl jJ ?_;(with_reducible refine (fw.calls k aj ak ax ay t154 _ A3.out).mono ?_);rintro e MC ⟨rfl,hb⟩;refine ⟨_,rfl,?_⟩;replace Dn:=bC Dn hb;replace HB:=dF HB hb;(try clear hb);(try clear hb2);(try clear hk);(try clear hi))|((with_reducible refine aW (f:=74) rfl ?_);refine dM (some 12) rfl rfl Try.func74 aR rfl #[.int .i64 a1,.int .i64 0,.int .i64 1073741824] rfl jJ ?_;(with_reducible refine (bO.calls a1 0 1073741824 false _ A5.out).mono ?_);rintro e w' ⟨rfl,⟨nd,rfl⟩⟩;refine ⟨_,rfl,?_⟩))
   go_ret
   exact ⟨lJ,gM⟩
 ·rw [if_neg c4] at H
  have rW:(t154 == 0) = false:=beq_eq_false_iff_ne.mpr c4
  have amA:(t154 != 0) = true:=bne_iff_ne.mpr c4
  obtain rfl:=Option.some.inj H
  go_enter Try.func114,Try.ntmps114
  go_wp2_with (first|((with_reducible refine aA (N:=2) rfl ?_);refine az (by rfl) (N:=2) (by rfl) (cs:=#[.int .i64 aj,.int .i64 ak,.int .i64 ax,.int .i64 ay]) (t:=31) gQ ?_;intro akG hg w13 hbox hb;have Dn:=ae.mk (hbox);have akH:=dn HB hg;have akI:=dn HB hg;replace HB:=dF HB hb;clear hb hbox hg;obtain ⟨wm,wo,DR,DT,wu,wy,DU,DV⟩:=iC Dn.out)|((with_reducible refine aW (f:=67) rfl ?_);refine dM (some 7) rfl rfl Try.func67 aR rfl #[.agg #[.int .i64 aj,.int .i64 ak,.int .i64 ax,.int .i64 ay]] rfl jJ ?_;(with_reducible refine (fw.calls k aj ak ax ay t154 _ A3.out).mono ?_);rintro e WW ⟨rfl,hb⟩;refine ⟨_,rfl,?_⟩;replace Dn:=bC Dn hb;replace HB:=dF HB hb;(try clear hb);(try clear hb2);(try clear hk);(try clear hi)))
  go_ret
  exact ⟨lJ,gM⟩
end Go.Proofs.Ytmhaiihjfgfaoaa.Pr
end
section
namespace Go.Proofs.Ytmhaiihjfgfaoaa.Pr
open Go.RowKit Go.Proofs.YtmhaiihjfgfaoaaW.PrintWords Go.Proofs.YtmhaiihjfgfaoaaW.PrintLast Go.Proofs.YtmhaiihjfgfaoaaW.PrintMore
attribute [local go_sem] cz cB dK dL cK
set_option linter.unusedVariables false
set_option linter.unusedSimpArgs false
def eP.l0:Nat→Int→List (vY)→Int→Int→Option (Int)
 |0,_,_,_,_=>none
 |k+1,x1,x10,x11,RD=>if RD < x11 then (if 0≤RD then (if RD < (x10.length:Int) then (if ((dx x10 RD).f0) < 0 then (some 2) else (if ((dx x10 RD).f0) ≥ 9 then (some 2) else (if ((dx x10 RD).f1) < 0 then (some 2) else (if x1 ≥ 0 then (if ((dx x10 RD).f1) ≥ x1 then (some 2) else (eP.l0 k x1 x10 x11 (wrap64 (RD+1)))) else (eP.l0 k x1 x10 x11 (wrap64 (RD+1))))))) else (none)) else (none)) else (some 0)
def eP.f (k:Nat) (l0:List (vY)) (a1:Int):Option (Int):=if (l0.length:Int) > 64 then (some 6) else (eP.l0 k a1 l0 (l0.length:Int) 0)
set_option maxHeartbeats 8000000 in
set_option maxRecDepth 100000 in
theorem eP.calls (k:Nat) (A0:Option Addr) (c0:Nat) (l0:List (vY)) (a1:Int) (r:Int) (w:World) (hr0:Kd.C Yv w A0 l0.length l0) (hc0:l0.length≤c0) (h:eP.f k l0 a1 = some r):
 Calls Try.prog 65 #[.slice A0 l0.length c0,.int .i64 a1] w fun e w'=>e = .returned (.int .i64 r)∧Below w.heap.size w w':=by
 have Rs:=Try.underlying33
 have GX:=ae.mk hr0
 have HC0:=ae.mk hc0
 clear hr0 hc0
 have HB:=ae.mk (Below.refl w.heap.size w)
 have H:(if (l0.length:Int) > 64 then (some 6) else (eP.l0 k a1 l0 (l0.length:Int) 0)) = some r:=h
 clear h
 by_cases c3:(l0.length:Int) > 64
 ·rw [if_pos c3] at H
  have Db:decide (64 < (l0.length:Int)) = true:=decide_eq_true c3
  have UQ:decide (64 < l0.length) = true:=decide_eq_true (by omega)
  clear c3
  obtain rfl:=Option.some.inj H
  go_enter Try.func65,Try.ntmps65
  go_wp2
  go_ret
  exact ⟨lJ,gM⟩
 ·rw [if_neg c3] at H
  have Db:decide (64 < (l0.length:Int)) = false:=decide_eq_false c3
  have UQ:decide (64 < l0.length) = false:=decide_eq_false (by omega)
  clear c3
  have H':=ae.mk H
  clear H
  go_enter Try.func65,Try.ntmps65
  go_wp2
  go_loopg [12] k (fun kq v12 w'=>∃ (iU:Int),v12 = .int .i64 iU∧ae (eP.l0 kq a1 l0 (l0.length:Int) iU = some r)∧ae (kq≤k)∧ae (Below w.heap.size w w'))
  case atStart=>exact ⟨(0),nI,H',⟨Nat.le_refl _⟩,⟨gM⟩⟩
  case round =>
   clear H'
   try clear p2
   try clear c3
   try clear Db
   try clear UQ
   obtain ⟨iU,rfl,HA,Mi,HB⟩:=hrel
   cases gk with
   |zero=>exact absurd HA.out (by simp [eP.l0])
   |succ k1 =>
    have H:=HA.out
    clear HA
    simp only [eP.l0] at H
    by_cases c4:iU < (l0.length:Int)
    ·rw [if_pos c4] at H
     have rW:decide (iU < (l0.length:Int)) = true:=decide_eq_true c4
     clear c4
     by_cases c5:0≤iU
     ·rw [if_pos c5] at H
      have Dc:decide (0≤iU) = true:=decide_eq_true c5
      clear c5
      by_cases c6:iU < (l0.length:Int)
      ·rw [if_pos c6] at H
       have Dp:decide (iU < (l0.length:Int)) = true:=decide_eq_true c6
       clear c6
       by_cases c7:((dx l0 iU).f0) < 0
       ·rw [if_pos c7] at H
        have WX:decide (((dx l0 iU).f0) < 0) = true:=decide_eq_true c7
        clear c7
        obtain rfl:=Option.some.inj H
        have xC:0≤(iU:Int):=of_decide_eq_true lX
        have xD:iU < (l0.length:Int):=of_decide_eq_true lX
        obtain ⟨UR,OY,kG,kH⟩:=kT GX.out iU xC xD
        cases OY
        replace kG:=(HB.out.cell (World.block_lt_of_cell? w _ kG)).trans kG
        replace kH:=(HB.out.cell (World.block_lt_of_cell? w _ kH)).trans kH
        replace xC:=eq_true xC
        replace xD:=eq_true xD
        go_wp2_with (first|((with_reducible refine aA (N:=6) rfl ?_);refine az (by rfl) (N:=6) (by rfl) (cs:=#[.int .i64 0,.int .i64 0]) (t:=33) gQ ?_;intro UT hg w8 hbox hb;have Dq:=ae.mk (hbox);have UU:=dn HB hg;have UW:=dn HB hg;replace HB:=dF HB hb;clear hb hbox hg;obtain ⟨Dr,Dt,Du,Dv⟩:=nE Dq.out))
        go_ret
        exact ⟨lJ,gM⟩
       ·rw [if_neg c7] at H
        have WX:decide (((dx l0 iU).f0) < 0) = false:=decide_eq_false c7
        clear c7
        by_cases c10:((dx l0 iU).f0) ≥ 9
        ·rw [if_pos c10] at H
         have Ad:decide (9≤((dx l0 iU).f0)) = true:=decide_eq_true c10
         clear c10
         obtain rfl:=Option.some.inj H
         have xC:0≤(iU:Int):=of_decide_eq_true lX
         have xD:iU < (l0.length:Int):=of_decide_eq_true lX
         obtain ⟨UR,OY,kG,kH⟩:=kT GX.out iU xC xD
         cases OY
         replace kG:=(HB.out.cell (World.block_lt_of_cell? w _ kG)).trans kG
         replace kH:=(HB.out.cell (World.block_lt_of_cell? w _ kH)).trans kH
         replace xC:=eq_true xC
         replace xD:=eq_true xD
         go_wp2_with (first|((with_reducible refine aA (N:=6) rfl ?_);refine az (by rfl) (N:=6) (by rfl) (cs:=#[.int .i64 0,.int .i64 0]) (t:=33) gQ ?_;intro UT hg w11 hbox hb;have Dq:=ae.mk (hbox);have UU:=dn HB hg;have UW:=dn HB hg;replace HB:=dF HB hb;clear hb hbox hg;obtain ⟨uS,uT,uU,uV⟩:=nE Dq.out))
         go_ret
         exact ⟨lJ,gM⟩
        ·rw [if_neg c10] at H
         have Ad:decide (9≤((dx l0 iU).f0)) = false:=decide_eq_false c10
         clear c10
         by_cases c13:((dx l0 iU).f1) < 0
         ·rw [if_pos c13] at H
          have apa:decide (((dx l0 iU).f1) < 0) = true:=decide_eq_true c13
          clear c13
          obtain rfl:=Option.some.inj H
          have xC:0≤(iU:Int):=of_decide_eq_true lX
          have xD:iU < (l0.length:Int):=of_decide_eq_true lX
          obtain ⟨UR,OY,kG,kH⟩:=kT GX.out iU xC xD
          cases OY
          replace kG:=(HB.out.cell (World.block_lt_of_cell? w _ kG)).trans kG
          replace kH:=(HB.out.cell (World.block_lt_of_cell? w _ kH)).trans kH
          replace xC:=eq_true xC
          replace xD:=eq_true xD
          go_wp2_with (first|((with_reducible refine aA (N:=6) rfl ?_);refine az (by rfl) (N:=6) (by rfl) (cs:=#[.int .i64 0,.int .i64 0]) (t:=33) gQ ?_;intro UT hg w14 hbox hb;have Dq:=ae.mk (hbox);have UU:=dn HB hg;have UW:=dn HB hg;replace HB:=dF HB hb;clear hb hbox hg;obtain ⟨pM,pO,pQ,pR⟩:=nE Dq.out))
          go_ret
          exact ⟨lJ,gM⟩
         ·rw [if_neg c13] at H
          have apa:decide (((dx l0 iU).f1) < 0) = false:=decide_eq_false c13
          clear c13
          by_cases c16:a1 ≥ 0
          ·rw [if_pos c16] at H
           have yw:decide (0≤a1) = true:=decide_eq_true c16
           clear c16
           by_cases c17:((dx l0 iU).f1) ≥ a1
           ·rw [if_pos c17] at H
            have adD:decide (a1≤((dx l0 iU).f1)) = true:=decide_eq_true c17
            clear c17
            obtain rfl:=Option.some.inj H
            have xC:0≤(iU:Int):=of_decide_eq_true lX
            have xD:iU < (l0.length:Int):=of_decide_eq_true lX
            obtain ⟨UR,OY,kG,kH⟩:=kT GX.out iU xC xD
            cases OY
            replace kG:=(HB.out.cell (World.block_lt_of_cell? w _ kG)).trans kG
            replace kH:=(HB.out.cell (World.block_lt_of_cell? w _ kH)).trans kH
            replace xC:=eq_true xC
            replace xD:=eq_true xD
            go_wp2_with (first|((with_reducible refine aA (N:=6) rfl ?_);refine az (by rfl) (N:=6) (by rfl) (cs:=#[.int .i64 0,.int .i64 0]) (t:=33) gQ ?_;intro UT hg w18 hbox hb;have Dq:=ae.mk (hbox);have UU:=dn HB hg;have UW:=dn HB hg;replace HB:=dF HB hb;clear hb hbox hg;obtain ⟨yx,yz,yA,yB⟩:=nE Dq.out))
            go_ret
            exact ⟨lJ,gM⟩
           ·rw [if_neg c17] at H
            have adD:decide (a1≤((dx l0 iU).f1)) = false:=decide_eq_false c17
            clear c17
            have H':=ae.mk H
            clear H
            have xC:0≤(iU:Int):=of_decide_eq_true lX
            have xD:iU < (l0.length:Int):=of_decide_eq_true lX
            obtain ⟨UR,OY,kG,kH⟩:=kT GX.out iU xC xD
            cases OY
            replace kG:=(HB.out.cell (World.block_lt_of_cell? w _ kG)).trans kG
            replace kH:=(HB.out.cell (World.block_lt_of_cell? w _ kH)).trans kH
            replace xC:=eq_true xC
            replace xD:=eq_true xD
            go_wp2_with (first|((with_reducible refine aA (N:=6) rfl ?_);refine az (by rfl) (N:=6) (by rfl) (cs:=#[.int .i64 0,.int .i64 0]) (t:=33) gQ ?_;intro UT hg D7 hbox hb;have Dq:=ae.mk (hbox);have UU:=dn HB hg;have UW:=dn HB hg;replace HB:=dF HB hb;clear hb hbox hg;obtain ⟨qE,qF,qG,qH⟩:=nE Dq.out))
            go_roundg k1
            case measure=>have:=Mi.out;omega
            case rel=>exact ⟨(wrap64 (iU+1)),nI,H',⟨RF⟩,⟨gM⟩⟩
          ·rw [if_neg c16] at H
           have yw:decide (0≤a1) = false:=decide_eq_false c16
           clear c16
           have H':=ae.mk H
           clear H
           have xC:0≤(iU:Int):=of_decide_eq_true lX
           have xD:iU < (l0.length:Int):=of_decide_eq_true lX
           obtain ⟨UR,OY,kG,kH⟩:=kT GX.out iU xC xD
           cases OY
           replace kG:=(HB.out.cell (World.block_lt_of_cell? w _ kG)).trans kG
           replace kH:=(HB.out.cell (World.block_lt_of_cell? w _ kH)).trans kH
           replace xC:=eq_true xC
           replace xD:=eq_true xD
           go_wp2_with (first|((with_reducible refine aA (N:=6) rfl ?_);refine az (by rfl) (N:=6) (by rfl) (cs:=#[.int .i64 0,.int .i64 0]) (t:=33) gQ ?_;intro UT hg w22 hbox hb;have Dq:=ae.mk (hbox);have UU:=dn HB hg;have UW:=dn HB hg;replace HB:=dF HB hb;clear hb hbox hg;obtain ⟨qI,qJ,qK,qL⟩:=nE Dq.out))
           go_roundg k1
           case measure=>have:=Mi.out;omega
           case rel=>exact ⟨(wrap64 (iU+1)),nI,H',⟨RF⟩,⟨gM⟩⟩
      ·rw [if_neg c6] at H
       exact absurd H (by simp)
     ·rw [if_neg c5] at H
      exact absurd H (by simp)
    ·rw [if_neg c4] at H
     have rW:decide (iU < (l0.length:Int)) = false:=decide_eq_false c4
     clear c4
     obtain rfl:=Option.some.inj H
     go_wp2
     go_ret
     exact ⟨lJ,gM⟩
end Go.Proofs.Ytmhaiihjfgfaoaa.Pr
end
