import Derived.Test.YtmhaiihjfgfaoaaGnGliderNever3
import Derived.Test.YtmhaiihjfgfaoaaGnGliderNever13
import Derived.Test.YtmhaiihjfgfaoaaGnGliderNever6
set_option linter.unusedSimpArgs false
open Go.Value renaming int → Z
open Go.IntKind renaming i64 → ab
open Bool renaming true → ac, false → al
section
namespace Go.Proofs.Ytmhaiihjfgfaoaa.Gl
open Go.RowKit Go.Shelf Go.Proofs.YtmhaiihjfgfaoaaW.PrintWords Go.Proofs.YtmhaiihjfgfaoaaW.PrintLast Go.Proofs.YtmhaiihjfgfaoaaW.PrintMore Go.Proofs.Ytmhaiihjfgfaoaa.Pr Go.Proofs.YtmhaiihjfgfaoaaW.Round
set_option linter.unusedVariables false
set_option linter.unusedSimpArgs false
attribute [local go_sem] dw dx dM dN dz
structure BQ (s:fT):Prop where
 n:Fg s
 sh:(s.shores.length:Int) = s.nx*s.ny
 cu:(s.currents.length:Int) = s.slots*s.layers*(s.nx*s.ny)
 cb:aoY s
def gp (x:cZ):Prop:=Cc x∧x.f0.f0≤x.f0.f1∧x.f1.f0≤x.f1.f1
theorem yx {s:fT} {v:iw} {x:cZ} {t:Int} (hS:Fg s) (hV:uF v) (hx:gp x) (h:eP s v x t = 0):R6 s (dE s v x)∧(0≤t∧t+v.dive≤s.slots*s.slot)∧(0≤x.f0.f0∧x.f0.f1≤1000000)∧(0≤x.f1.f0∧x.f1.f1≤1000000):=by
 have hm:=hS.most
 have hsp:=hV.speed
 have hdv:=hV.dive
 have p1:=jy (show 0≤v.speed+s.most by omega) (show v.speed+s.most≤10000 by omega) (show 0≤v.dive by omega) hdv.2
 have p2:=jy (show 0≤s.nx by have:=hS.nx;omega) hS.nx.2 (show 0≤s.cell by have:=hS.cell;omega) hS.cell.2
 have p3:=jy (show 0≤s.ny by have:=hS.ny;omega) hS.ny.2 (show 0≤s.cell by have:=hS.cell;omega) hS.cell.2
 obtain ⟨⟨x0,x1,x2,x3⟩,x4,x5⟩:=hx
 unfold eP at h
 have hc:ik s (dE s v x) = true∧rA s t (t+v.dive) = true:=by
  by_cases hb:(ik s (dE s v x) && rA s t (t+v.dive)) = true
  ·exact Bool.and_eq_true_iff.1 hb
  ·rw [if_neg hb] at h
   cases h
 obtain ⟨h1,h2⟩:=hc
 unfold ik dE at h1
 unfold rA at h2
 simp only [Bool.and_eq_true,decide_eq_true_eq] at h1 h2
 unfold R6 dE
 dsimp only
 omega
def jv (s:fT) (v:iw) (x:cZ) (t:Int):Int:=if eP s v x t≠0 then eP s v x t else BX s (dE s v x)
def iX (s:fT) (v:iw) (x:cZ) (t hd layer:Int):cZ:=if jv s v x t = 0 then jl s v x (dE s v x) t hd layer else z31
theorem agZ (s:fT) (x:cZ):BX s x = 0∨BX s x = 21:=by
 unfold BX
 split
 ·exact .inr rfl
 ·exact .inl rfl
theorem PV {s:fT} {v:iw} {x:cZ} {t hd layer:Int} (hS:BQ s) (hV:uF v) (hx:gp x) (h:jv s v x t = 0):gp (iX s v x t hd layer):=by
 have hr:eP s v x t = 0:=by
  unfold jv at h
  by_cases hz:eP s v x t = 0
  ·exact hz
  ·rw [if_pos hz] at h
   exact absurd h hz
 obtain ⟨_,_,⟨a0,a1⟩,b0,b1⟩:=yx hS.n hV hx hr
 obtain ⟨_,o1,o2⟩:=hx
 have hdv:=hV.dive
 have hsp:=hV.speed
 have hdi:=LP hd
 have hai:=adp hS.cb (dE s v x) layer t (t+v.dive)
 unfold iX
 rw [if_pos h]
 unfold jl jG gp Cc PW upM
 dsimp only
 generalize R8 s (dE s v x) layer t (t+v.dive) = y at*
 generalize Cf hd = d at*
 obtain ⟨⟨y0,y1⟩,⟨y2,y3⟩,⟨y4,y5⟩,⟨y6,y7⟩,y8,y9⟩:=hai
 have m0:=iP (a:=d.1) (b:=v.speed) (m:=1000) (n:=5000) hdi.1.1 hdi.1.2 hsp.1 hsp.2 (by omega)
 have m1:=iP (a:=d.2) (b:=v.speed) (m:=1000) (n:=5000) hdi.2.1 hdi.2.2 hsp.1 hsp.2 (by omega)
 generalize d.1*v.speed = e at*
 generalize d.2*v.speed = f at*
 have n0:=iP (a:=e+1000*y.f0.f0) (b:=v.dive) (m:=10000000) (n:=131072) (by omega) (by omega) (by omega) (by omega) (by omega)
 have n1:=iP (a:=e+1000*y.f0.f1) (b:=v.dive) (m:=10000000) (n:=131072) (by omega) (by omega) (by omega) (by omega) (by omega)
 have n2:=iP (a:=f+1000*y.f1.f0) (b:=v.dive) (m:=10000000) (n:=131072) (by omega) (by omega) (by omega) (by omega) (by omega)
 have n3:=iP (a:=f+1000*y.f1.f1) (b:=v.dive) (m:=10000000) (n:=131072) (by omega) (by omega) (by omega) (by omega) (by omega)
 have k0:=Int.mul_le_mul_of_nonneg_right (show e+1000*y.f0.f0≤e+1000*y.f0.f1 by omega) (show 0≤v.dive by omega)
 have k1:=Int.mul_le_mul_of_nonneg_right (show f+1000*y.f1.f0≤f+1000*y.f1.f1 by omega) (show 0≤v.dive by omega)
 generalize (e+1000*y.f0.f0)*v.dive = A at*
 generalize (e+1000*y.f0.f1)*v.dive = B at*
 generalize (f+1000*y.f1.f0)*v.dive = C at*
 generalize (f+1000*y.f1.f1)*v.dive = E at*
 clear m0 m1 hdi hdv hsp h hr
 omega
set_option maxRecDepth 100000 in
set_option maxHeartbeats 8000000 in
theorem PX (b:Nat) (s:fT) (v:iw) (x:cZ) (t hd layer:Int) (w:World) (hT:dZ w b s v) (hS:BQ s) (hV:uF v) (hx:gp x) (ht0:0≤t) (ht1:t≤1099511627776) (hh0:0≤hd) (hh1:hd≤8) (hl0:0≤layer) (hl1:layer < s.layers):
 Calls Try.prog 66 #[.pointer (some ⟨b,0,none⟩),.agg #[Z ab x.f0.f0,Z ab x.f0.f1,Z ab x.f1.f0,Z ab x.f1.f1],Z ab t,.agg #[Z ab hd,Z ab layer]] w (oo (.tuple #[.agg #[Z ab (iX s v x t hd layer).f0.f0,Z ab (iX s v x t hd layer).f0.f1,Z ab (iX s v x t hd layer).f1.f0,Z ab (iX s v x t hd layer).f1.f1],Z ab (jv s v x t)]) w):=by
 have pG:=Try.underlying31
 have mE:=Try.underlying27
 have F5:=Try.underlying33
 have kR:=fun W (h:dZ W b s v)=>JR b s v x t W h hS.n hV hx.1 ht0 ht1
 have hok:=yx (t:=t) hS.n hV hx
 have HE:Hid (jv s v x t = if eP s v x t≠0 then eP s v x t else BX s (dE s v x)):=Lib.hid rfl
 have HV:Hid (iX s v x t hd layer = if jv s v x t = 0 then jl s v x (dE s v x) t hd layer else z31):=Lib.hid rfl
 have HRV:Hid (rC s v x t = if eP s v x t = 0 then dE s v x else z31):=Lib.hid rfl
 go_enter Try.func66,Try.ntmps66
 go_wp2_with fail
 have m5:aZ (((w.alloc (.cells #[Z ab x.f0.f0,Z ab x.f0.f1,Z ab x.f1.f0,Z ab x.f1.f1] 31)).alloc (.cells #[Z ab hd,Z ab layer] 33)).alloc (.cells #[Z ab 0,Z ab 0,Z ab 0,Z ab 0] 31)) (w.heap.size) #[Z ab x.f0.f0,Z ab x.f0.f1,Z ab x.f1.f0,Z ab x.f1.f1] 31:=(aa (aa afR _) _)
 have m7:aZ (((w.alloc (.cells #[Z ab x.f0.f0,Z ab x.f0.f1,Z ab x.f1.f0,Z ab x.f1.f1] 31)).alloc (.cells #[Z ab hd,Z ab layer] 33)).alloc (.cells #[Z ab 0,Z ab 0,Z ab 0,Z ab 0] 31)) (w.heap.size+1) #[Z ab hd,Z ab layer] 33:=(aa (by have h_:=bB (w.alloc (.cells #[Z ab x.f0.f0,Z ab x.f0.f1,Z ab x.f1.f0,Z ab x.f1.f1] 31)) (.cells #[Z ab hd,Z ab layer] 33);first|exact h_|(simp only [World.size_alloc] at h_;exact h_)) _)
 have m8:aZ (((w.alloc (.cells #[Z ab x.f0.f0,Z ab x.f0.f1,Z ab x.f1.f0,Z ab x.f1.f1] 31)).alloc (.cells #[Z ab hd,Z ab layer] 33)).alloc (.cells #[Z ab 0,Z ab 0,Z ab 0,Z ab 0] 31)) (w.heap.size+1+1) #[Z ab 0,Z ab 0,Z ab 0,Z ab 0] 31:=(by have h_:=bB ((w.alloc (.cells #[Z ab x.f0.f0,Z ab x.f0.f1,Z ab x.f1.f0,Z ab x.f1.f1] 31)).alloc (.cells #[Z ab hd,Z ab layer] 33)) (.cells #[Z ab 0,Z ab 0,Z ab 0,Z ab 0] 31);first|exact h_|(simp only [World.size_alloc] at h_;exact h_))
 have mB:Below w.heap.size w (((w.alloc (.cells #[Z ab x.f0.f0,Z ab x.f0.f1,Z ab x.f1.f0,Z ab x.f1.f1] 31)).alloc (.cells #[Z ab hd,Z ab layer] 33)).alloc (.cells #[Z ab 0,Z ab 0,Z ab 0,Z ab 0] 31)):=(ai (ai (ai (Below.refl w.heap.size w) _) _) _)
 have dU:w.heap.size≤w.heap.size:=Nat.le_refl _
 generalize jq:(((w.alloc (.cells #[Z ab x.f0.f0,Z ab x.f0.f1,Z ab x.f1.f0,Z ab x.f1.f1] 31)).alloc (.cells #[Z ab hd,Z ab layer] 33)).alloc (.cells #[Z ab 0,Z ab 0,Z ab 0,Z ab 0] 31)) = W1 at m5 m7 m8 mB ⊢
 clear jq
 generalize hg5:w.heap.size = g5 at m5 m7 m8 ⊢
 have Yd:w.heap.size≤g5:=by omega
 generalize hg7:g5+1 = g7 at m7 m8 ⊢
 have Cg:g5≠g7:=by omega
 have TJ:g7≠g5:=Cg.symm
 have hG7:w.heap.size≤g7:=by omega
 generalize hg8:g7+1 = g8 at m8 ⊢
 have JV:g5≠g8:=by omega
 have oq:g7≠g8:=by omega
 have abu:g8≠g5:=JV.symm
 have iY:g8≠g7:=oq.symm
 have Sa:w.heap.size≤g8:=by omega
 clear dU
 try clear hg8
 try clear hg7
 try clear hg5
 have lC:w.heap.size≤W1.heap.size:=mB.size
 have hcon:=kR W1 (hT.below mB)
 (with_reducible refine hcon.mono ?_)
 clear hcon
 rintro e W2 ⟨rfl,hb⟩
 replace m5:=af m5 hb
 replace m7:=af m7 hb
 replace m8:=af m8 hb
 replace mB:=aJ mB hb
 clear hb
 have mY:w.heap.size≤W2.heap.size:=mB.size
 clear kR
 by_cases hr:eP s v x t = 0
 case neg =>
  have HZ:Hid (jv s v x t = eP s v x t):=Lib.hid (HE.out.trans (if_pos hr))
  try clear HE
  have HV2:Hid (iX s v x t hd layer = z31):=Lib.hid (HV.out.trans (if_neg (by rw [HZ.out];exact hr)))
  clear HV hok
  generalize eP s v x t = E at*
  generalize rC s v x t = V at*
  have hz:(E == 0) = false:=beq_eq_false_iff_ne.2 hr
  have hz2:(E != 0) = true:=by rw [bne,hz];rfl
  clear hr HRV
  have aJW:∀ o_,(W2.alloc o_).cell? ⟨g8,0,none⟩ = some (Z ab 0):=fun o_=>(ae (aa m8 o_) 0).trans rfl
  have aJX:∀ o_,(W2.alloc o_).frozen? ⟨g8,0,none⟩ = false:=fun o_=>aK (aa m8 o_) 0
  have aJY:∀ o_,(W2.alloc o_).cell? ⟨g8,1,none⟩ = some (Z ab 0):=fun o_=>(ae (aa m8 o_) 1).trans rfl
  have aJZ:∀ o_,(W2.alloc o_).frozen? ⟨g8,1,none⟩ = false:=fun o_=>aK (aa m8 o_) 1
  have aJ0:∀ o_,(W2.alloc o_).cell? ⟨g8,2,none⟩ = some (Z ab 0):=fun o_=>(ae (aa m8 o_) 2).trans rfl
  have aJ1:∀ o_,(W2.alloc o_).frozen? ⟨g8,2,none⟩ = false:=fun o_=>aK (aa m8 o_) 2
  have aJ2:∀ o_,(W2.alloc o_).cell? ⟨g8,3,none⟩ = some (Z ab 0):=fun o_=>(ae (aa m8 o_) 3).trans rfl
  have aJ3:∀ o_,(W2.alloc o_).frozen? ⟨g8,3,none⟩ = false:=fun o_=>aK (aa m8 o_) 3
  go_wp2
  exact bodyPost_ret (kZ rfl _ _ g8 31 #[Z ab 0,Z ab 0,Z ab 0,Z ab 0] (0,0) _ rfl (az (az (az (az (aa m8 _) 0 (Z ab 0) rfl) 1 (Z ab 0) rfl) 2 (Z ab 0) rfl) 3 (Z ab 0) rfl) Try.underlying31 rfl aT) rfl ⟨abq,(Below.setCell (p:=⟨g8,3,none⟩) (Below.setCell (p:=⟨g8,2,none⟩) (Below.setCell (p:=⟨g8,1,none⟩) (Below.setCell (p:=⟨g8,0,none⟩) (ai mB _) Sa _) Sa _) Sa _) Sa _)⟩
 case pos =>
  obtain ⟨hG,⟨hk0,hk1⟩,_⟩:=hok hr
  clear hok
  have HE2:=Lib.hid (HE.out.trans (if_neg (fun h=>h hr)))
  clear HE
  have aq8:=Lib.hid (HRV.out.trans (if_pos hr))
  clear HRV
  rw [hr,aq8.out]
  clear hr aq8
  have kS:=fun W (h:dZ W b s v)=>agH b s v (dE s v x) W h hS.n hG hS.sh
  have kD:=fun W (h:dZ W b s v)=>PR b s v x (dE s v x) t hd layer W h hS.n hV hS.cu hS.cb hx.1 hG hk0 hk1 hh0 hh1 hl0 hl1
  clear hS hV hx hG hk0 hk1 hh0 hh1 hl0 hl1
  have hsf:=agZ s (dE s v x)
  generalize jl s v x (dE s v x) t hd layer = Y at*
  generalize dE s v x = G at*
  generalize BX s G = F at*
  go_wp2_with fail
  have uj:=aD m5
  have uZ:=aD m7
  have xU:=aD m8
  have m10:aZ (W2.alloc (.cells #[Z ab G.f0.f0,Z ab G.f0.f1,Z ab G.f1.f0,Z ab G.f1.f1] 31)) (W2.heap.size) #[Z ab G.f0.f0,Z ab G.f0.f1,Z ab G.f1.f0,Z ab G.f1.f1] 31:=aq9
  replace m5:aZ (W2.alloc (.cells #[Z ab G.f0.f0,Z ab G.f0.f1,Z ab G.f1.f0,Z ab G.f1.f1] 31)) g5 #[Z ab x.f0.f0,Z ab x.f0.f1,Z ab x.f1.f0,Z ab x.f1.f1] 31:=(aa m5 _)
  replace m7:aZ (W2.alloc (.cells #[Z ab G.f0.f0,Z ab G.f0.f1,Z ab G.f1.f0,Z ab G.f1.f1] 31)) g7 #[Z ab hd,Z ab layer] 33:=(aa m7 _)
  replace m8:aZ (W2.alloc (.cells #[Z ab G.f0.f0,Z ab G.f0.f1,Z ab G.f1.f0,Z ab G.f1.f1] 31)) g8 #[Z ab 0,Z ab 0,Z ab 0,Z ab 0] 31:=(aa m8 _)
  replace mB:Below w.heap.size w (W2.alloc (.cells #[Z ab G.f0.f0,Z ab G.f0.f1,Z ab G.f1.f0,Z ab G.f1.f1] 31)):=(ai mB _)
  have dU:w.heap.size≤W2.heap.size:=mY
  generalize jq:(W2.alloc (.cells #[Z ab G.f0.f0,Z ab G.f0.f1,Z ab G.f1.f0,Z ab G.f1.f1] 31)) = W3 at m5 m7 m8 m10 mB ⊢
  clear jq
  generalize Tq:W2.heap.size = g10 at m10 ⊢
  have jU:g5≠g10:=by omega
  have zN:g7≠g10:=by omega
  have TK:g8≠g10:=by omega
  have Tt:g10≠g5:=jU.symm
  have TI:g10≠g7:=zN.symm
  have akJ:g10≠g8:=TK.symm
  have lZ:w.heap.size≤g10:=by omega
  clear dU uj uZ xU
  try clear Tq
  have uY:w.heap.size≤W3.heap.size:=mB.size
  have hcon:=kS W3 (hT.below mB)
  (with_reducible refine hcon.mono ?_)
  clear hcon
  rintro e W4 ⟨rfl,hb⟩
  replace m5:=af m5 hb
  replace m7:=af m7 hb
  replace m8:=af m8 hb
  replace m10:=af m10 hb
  replace mB:=aJ mB hb
  clear hb
  have E5:w.heap.size≤W4.heap.size:=mB.size
  clear kS
  rcases hsf with rfl|rfl
  case inr =>
   have HZ:Hid (jv s v x t = 21):=Lib.hid (HE2.out)
   try clear HE
   have HV2:Hid (iX s v x t hd layer = z31):=Lib.hid (HV.out.trans (if_neg (by rw [HZ.out];decide)))
   clear HV
   obtain ⟨yz,F7,JW,JX,ara,arb,aBH,aBI⟩:=jr m8
   go_wp2
   exact bodyPost_ret (kZ rfl _ _ g8 31 #[Z ab 0,Z ab 0,Z ab 0,Z ab 0] (0,0) _ rfl (az (az (az (az m8 0 (Z ab 0) rfl) 1 (Z ab 0) rfl) 2 (Z ab 0) rfl) 3 (Z ab 0) rfl) Try.underlying31 rfl aT) rfl ⟨abq,(Below.setCell (p:=⟨g8,3,none⟩) (Below.setCell (p:=⟨g8,2,none⟩) (Below.setCell (p:=⟨g8,1,none⟩) (Below.setCell (p:=⟨g8,0,none⟩) mB Sa _) Sa _) Sa _) Sa _)⟩
  case inl =>
   have HV2:=Lib.hid (HV.out.trans (if_pos HE2.out))
   clear HV
   obtain ⟨yn,zG,JY,JZ⟩:=mH m5
   obtain ⟨zP,zQ⟩:=F8 m7
   obtain ⟨uU,uV,uW,uX⟩:=mH m10
   go_wp2_with fail
   clear yn zG JY JZ zP zQ uU uV uW uX
   have hcon:=kD W4 (hT.below mB)
   (with_reducible refine hcon.mono ?_)
   clear hcon
   rintro e W5 ⟨rfl,hb⟩
   replace m5:=af m5 hb
   replace m7:=af m7 hb
   replace m8:=af m8 hb
   replace m10:=af m10 hb
   replace mB:=aJ mB hb
   clear hb
   have E8:w.heap.size≤W5.heap.size:=mB.size
   clear kD
   obtain ⟨yz,F7,JW,JX,ara,arb,aBH,aBI⟩:=jr m8
   go_wp2
   exact bodyPost_ret (kZ rfl _ _ g8 31 #[Z ab Y.f0.f0,Z ab Y.f0.f1,Z ab Y.f1.f0,Z ab Y.f1.f1] (0,0) _ rfl (az (az (az (az m8 0 (Z ab Y.f0.f0) rfl) 1 (Z ab Y.f0.f1) rfl) 2 (Z ab Y.f1.f0) rfl) 3 (Z ab Y.f1.f1) rfl) Try.underlying31 rfl aT) rfl ⟨by rw [HV2.out,HE2.out];rfl,(Below.setCell (p:=⟨g8,3,none⟩) (Below.setCell (p:=⟨g8,2,none⟩) (Below.setCell (p:=⟨g8,1,none⟩) (Below.setCell (p:=⟨g8,0,none⟩) mB Sa _) Sa _) Sa _) Sa _)⟩
end Go.Proofs.Ytmhaiihjfgfaoaa.Gl
end
section
namespace Go.Proofs.Ytmhaiihjfgfaoaa.Pr
open Go.RowKit Go.Proofs.YtmhaiihjfgfaoaaW.PrintWords Go.Proofs.YtmhaiihjfgfaoaaW.PrintLast Go.Proofs.YtmhaiihjfgfaoaaW.PrintMore
attribute [local go_sem] dw dx dM dN dz
set_option linter.unusedVariables false
set_option linter.unusedSimpArgs false
def bF.f (a0:Int):Option (Int):=some (mx a0 (wrap64 (-a0)))
set_option maxHeartbeats 8000000 in
set_option maxRecDepth 100000 in
theorem bF.calls (a0:Int) (r:Int) (w:World) (h:bF.f a0 = some r):
 Calls Try.prog 117 #[Z ab a0] w fun e w'=>e = .returned (Z ab r)∧Below w.heap.size w w':=by
 have HB:=ag.mk (Below.refl w.heap.size w)
 have H:(some (mx a0 (wrap64 (-a0)))) = some r:=h
 clear h
 obtain ⟨ji2,akK⟩:∃ j_:Int,(mx a0 (wrap64 (-a0))) = j_:=⟨_,rfl⟩
 replace H:(some ji2) = some r:=by first|(rw [akK] at H;exact H)|(simp only [akK] at H ⊢;exact H)
 have aF0:(if a0 < (wrap64 (-a0)) then (wrap64 (-a0)) else a0) = ji2:=akK
 obtain rfl:=Option.some.inj H
 go_enter Try.func117,Try.ntmps117
 go_wp2
 go_ret
 exact ⟨by first|rfl|(simp [ic,ig] <;> rfl)|(simp only [← akK];first|rfl|(simp [ic,ig] <;> rfl))|(simp [*,ic,ig] <;> rfl),eZ⟩
def bH.f (k:Nat) (ax:Int) (av:Int) (aH:Int) (aG:Int):Option (Int):=(bA.f k (([(⟨ax,av⟩:gm),(⟨aH,aG⟩:gm)]:List (gm)))).bind fun t148=>(if t148 = 0 then ((bF.f ax).bind fun t149=>((bF.f av).bind fun t150=>((bF.f aH).bind fun t151=>((bF.f aG).bind fun t152=>(if (mx (mx (mx t149 t150) t151) t152) > 268435456 then (some 2) else (some 0)))))) else (some t148))
def bH.T4:Bool × List (List Nat × List Nat):=(true,[([],[]),([0],[0]),([1],[1]),([2],[2]),([],[]),([4],[4]),([5],[5]),([6,3],[6]),([],[]),([8],[8]),([9],[9]),([10,7],[10]),([],[]),([12],[12]),([13],[13]),([14,11],[14]),([3,7,11,15],[3,7,11,15]),([16],[16])])
def bH.B4:List Nat:=[0,1,3,7,0,16,48,127,0,256,768,2047,0,4096,12288,32767,65535,131071]
theorem bH.arc:uo .any (opsOf Try.f67 4) = bH.T4:=by kernel_rfl
theorem bH.anx:vR bH.T4.2 bH.B4 = true:=by kernel_rfl
set_option maxHeartbeats 8000000 in
set_option maxRecDepth 100000 in
theorem bH.calls (k:Nat) (ax:Int) (av:Int) (aH:Int) (aG:Int) (r:Int) (w:World) (h:bH.f k ax av aH aG = some r):
 Calls Try.prog 67 #[.agg #[Z ab ax,Z ab av,Z ab aH,Z ab aG]] w fun e w'=>e = .returned (Z ab r)∧Below w.heap.size w w':=by
 have pG:=Try.underlying31
 have mE:=Try.underlying27
 have HB:=ag.mk (Below.refl w.heap.size w)
 have H:((bA.f k (([(⟨ax,av⟩:gm),(⟨aH,aG⟩:gm)]:List (gm)))).bind fun t148=>(if t148 = 0 then ((bF.f ax).bind fun t149=>((bF.f av).bind fun t150=>((bF.f aH).bind fun t151=>((bF.f aG).bind fun t152=>(if (mx (mx (mx t149 t150) t151) t152) > 268435456 then (some 2) else (some 0)))))) else (some t148))) = some r:=h
 clear h
 obtain ⟨abv,Yr⟩:∃ y_:List (gm),y_ = (([(⟨ax,av⟩:gm),(⟨aH,aG⟩:gm)]:List (gm))):=⟨_,rfl⟩
 replace H:((bA.f k abv).bind fun t148=>(if t148 = 0 then ((bF.f ax).bind fun t149=>((bF.f av).bind fun t150=>((bF.f aH).bind fun t151=>((bF.f aG).bind fun t152=>(if (mx (mx (mx t149 t150) t151) t152) > 268435456 then (some 2) else (some 0)))))) else (some t148))) = some r:=by first|(rw [Yr];with_reducible exact H)|(have TL:=(Option.bind_some _ _).symm.trans H;rw [Yr];with_reducible exact TL)|(have TL:=(Option.bind_some _ _).symm.trans H;with_reducible exact TL)|with_reducible exact H|(rw [Yr];exact H)|exact H
 have Sb:=ag.mk Yr
 clear Yr
 replace H:=Option.bind_eq_some_iff.mp H
 obtain ⟨t148,Yt,H⟩:=H
 replace H:(if t148 = 0 then ((bF.f ax).bind fun t149=>((bF.f av).bind fun t150=>((bF.f aH).bind fun t151=>((bF.f aG).bind fun t152=>(if (mx (mx (mx t149 t150) t151) t152) > 268435456 then (some 2) else (some 0)))))) else (some t148)) = some r:=H
 have A2:=ag.mk Yt
 clear Yt
 by_cases c3:t148 = 0
 ·rw [if_pos c3] at H
  have PY:(t148 == 0) = true:=beq_iff_eq.mpr c3
  have Yu:(t148 != 0) = false:=bne_eq_false_iff_eq.mpr c3
  clear c3
  replace H:=Option.bind_eq_some_iff.mp H
  obtain ⟨t149,Sc,H⟩:=H
  replace H:((bF.f av).bind fun t150=>((bF.f aH).bind fun t151=>((bF.f aG).bind fun t152=>(if (mx (mx (mx t149 t150) t151) t152) > 268435456 then (some 2) else (some 0))))) = some r:=H
  have A4:=ag.mk Sc
  clear Sc
  replace H:=Option.bind_eq_some_iff.mp H
  obtain ⟨t150,A50,H⟩:=H
  replace H:((bF.f aH).bind fun t151=>((bF.f aG).bind fun t152=>(if (mx (mx (mx t149 t150) t151) t152) > 268435456 then (some 2) else (some 0)))) = some r:=H
  have A5:=ag.mk A50
  clear A50
  replace H:=Option.bind_eq_some_iff.mp H
  obtain ⟨t151,A60,H⟩:=H
  replace H:((bF.f aG).bind fun t152=>(if (mx (mx (mx t149 t150) t151) t152) > 268435456 then (some 2) else (some 0))) = some r:=H
  have A6:=ag.mk A60
  clear A60
  replace H:=Option.bind_eq_some_iff.mp H
  obtain ⟨t152,A70,H⟩:=H
  replace H:(if (mx (mx (mx t149 t150) t151) t152) > 268435456 then (some 2) else (some 0)) = some r:=H
  have A7:=ag.mk A70
  clear A70
  obtain ⟨ji8,TM⟩:∃ j_:Int,(mx t149 t150) = j_:=⟨_,rfl⟩
  replace H:(if (mx (mx (ji8) t151) t152) > 268435456 then (some 2) else (some 0)) = some r:=by first|(rw [TM] at H;exact H)|(simp only [TM] at H ⊢;exact H)
  (try rw [TM] at A2)
  (try rw [TM] at A4)
  (try rw [TM] at A5)
  (try rw [TM] at A6)
  (try rw [TM] at A7)
  have aF2:(if t149 < t150 then t150 else t149) = ji8:=TM
  obtain ⟨ji9,TN⟩:∃ j_:Int,(mx (ji8) t151) = j_:=⟨_,rfl⟩
  replace H:(if (mx (ji9) t152) > 268435456 then (some 2) else (some 0)) = some r:=by first|(rw [TN] at H;exact H)|(simp only [TN] at H ⊢;exact H)
  (try rw [TN] at A2)
  (try rw [TN] at A4)
  (try rw [TN] at A5)
  (try rw [TN] at A6)
  (try rw [TN] at A7)
  have aF3:(if (ji8) < t151 then t151 else (ji8)) = ji9:=TN
  obtain ⟨ag2,F9⟩:∃ j_:Int,(mx (ji9) t152) = j_:=⟨_,rfl⟩
  replace H:(if (ag2) > 268435456 then (some 2) else (some 0)) = some r:=by first|(rw [F9] at H;exact H)|(simp only [F9] at H ⊢;exact H)
  (try rw [F9] at A2)
  (try rw [F9] at A4)
  (try rw [F9] at A5)
  (try rw [F9] at A6)
  (try rw [F9] at A7)
  have aBJ:(if (ji9) < t152 then t152 else (ji9)) = ag2:=F9
  by_cases c11:(ag2) > 268435456
  ·rw [if_pos c11] at H
   have PZ:decide (268435456 < (ag2)) = true:=decide_eq_true c11
   clear c11
   obtain rfl:=Option.some.inj H
   go_enter Try.func67,Try.ntmps67
   try go_wp2_with (first|((with_reducible refine aI (N:=1) rfl ?_);refine aC (by rfl) (N:=1) (by rfl) (cs:=#[Z ab ax,Z ab av,Z ab aH,Z ab aG]) (t:=31) gu ?_;intro E9 hg F6 hbox hb;have fC:=ag.mk (hbox);have anz:=cB HB hg;have anA:=cB HB hg;replace HB:=cK HB hb;clear hb hbox hg;obtain ⟨vS,vT,zR,zS,vU,vV,zT,zU⟩:=jr fC.out)|((with_reducible refine aI (N:=8) rfl ?_);refine Kd.FT k27 _ 27 (by rfl) (N:=8) (by rfl) (xs:=([(⟨ax,av⟩:gm),(⟨aH,aG⟩:gm)]:List (gm))) (inner:=[Z ab ax,Z ab av,Z ab aH,Z ab aG]) (ok:=fun _=>True) (okp:=fun _=>True) gu ao2 (fun _ hk=>hk) trivial (Below.refl _ _) (Nat.le_refl _) (by simp) ?_;intro v146 w14 ag3 hb Yv sF;clear Yv sF;(first|rw [← Sb.out] at ag3|(simp only [Int.reduceToNat] at ag3;rw [← Sb.out] at ag3));have iB:=ag.mk (Kd.jS ag3 (gz eZ));replace fC:=bJ fC hb;replace HB:=cK HB hb;clear hb ag3;obtain ⟨aBK,aBL,aBM⟩:=Kd.jT iB.out;subst aBM)|((with_reducible refine aR (f:=116) rfl ?_);refine bU (some 9) rfl rfl Try.func116 aT rfl #[.slice aBK abv.length aBL] rfl jQ ?_;(with_reducible refine (bA.calls k _ _ abv t148 _ ?dP ?dQ A2.out).mono ?_);(case dP=>repeat (first|exact (Kd.dO iB.out).2.2|(with_reducible refine Kd.bR ?_ _)|(with_reducible refine Kd.bS ?_ _)|(with_reducible refine Kd.dA ?_)));(case dQ=>exact (Kd.dO iB.out).2.1);rintro e w17 ⟨rfl,hb⟩;refine ⟨_,rfl,?_⟩;replace iB:=xV iB hb;replace fC:=bJ fC hb;replace HB:=cK HB hb;(try clear hb);(try clear hb2);(try clear hk);(try clear hi)))
   replace iB:=ag.mk (Kd.mD iB.out)
   replace fC:=ag.mk (au fC.out)
   replace HB:=ag.mk (bf HB.out)
   refine lh (n:=18) (S:=fun w'=>w'.cell? ⟨E9,0,none⟩ = some (Z ab ax)∧w'.cell? ⟨E9,1,none⟩ = some (Z ab av)∧w'.cell? ⟨E9,2,none⟩ = some (Z ab aH)∧w'.cell? ⟨E9,3,none⟩ = some (Z ab aG)) (ds:=[]) #[al,al,al,al,al,al,al,al,al,al,al,al,al,al,al,al,al,al] aT rfl rfl (mH fC.out) (fun hHeld=>?_);refine rD bH.arc bH.anx (fun eH zV=>?_)
   generalize w17.drew = w18 at iB fC HB hHeld ⊢
   refine dG (i:=0) (N:=some 13) (bC eH.out aT) ?_
   refine dG (i:=1) (N:=some 14) (bC eH.out aT) ?_
   refine dG (i:=4) (N:=some 17) (bC eH.out aT) ?_
   refine dG (i:=5) (N:=some 18) (bC eH.out aT) ?_
   refine dG (i:=8) (N:=some 21) (bC eH.out aT) ?_
   refine dG (i:=9) (N:=some 22) (bC eH.out aT) ?_
   refine dG (i:=12) (N:=some 25) (bC eH.out aT) ?_
   refine dG (i:=13) (N:=some 26) (bC eH.out aT) ?_
   refine iy (i:=2) (N:=some 15) (dL eH.out zV.out aT) hHeld ?_
   refine iy (i:=6) (N:=some 19) (dL eH.out zV.out aT) hHeld ?_
   refine iy (i:=10) (N:=some 23) (dL eH.out zV.out aT) hHeld ?_
   refine iy (i:=14) (N:=some 27) (dL eH.out zV.out aT) hHeld ?_
   refine jC (i:=3) (N:=some 16) #[ac,ac,ac,ac,ac,ac,ac,al,ac,ac,ac,al,ac,ac,ac,al,al,al] rfl rfl (mI eH.out aT) (by decide) (fun K hK=>?_)
   refine jm Try.func117 aT rfl #[Z ab ax] (by rfl) rfl rfl jQ ?_
   with_reducible refine (bF.calls ax t149 _ A4.out).mono ?_
   rintro e w19 ⟨rfl,hb⟩
   refine ⟨_,rfl,?_⟩
   replace iB:=xV iB hb
   replace fC:=bJ fC hb
   replace HB:=cK HB hb
   (try clear hb)
   (try clear hb2)
   (try clear hk)
   (try clear hi)
   refine hK.out _ _ (mH fC.out) (fun hHeld=>?_)
   clear hK K
   refine dY afP ?_
   refine jC (i:=7) (N:=some 20) #[ac,ac,ac,ac,ac,ac,ac,ac,ac,ac,ac,al,ac,ac,ac,al,al,al] rfl rfl (mI eH.out aT) (by decide) (fun K hK=>?_)
   refine jm Try.func117 aT rfl #[Z ab av] (by rfl) rfl rfl jQ ?_
   with_reducible refine (bF.calls av t150 _ A5.out).mono ?_
   rintro e Fa ⟨rfl,hb⟩
   refine ⟨_,rfl,?_⟩
   replace iB:=xV iB hb
   replace fC:=bJ fC hb
   replace HB:=cK HB hb
   (try clear hb)
   (try clear hb2)
   (try clear hk)
   (try clear hi)
   refine hK.out _ _ (mH fC.out) (fun hHeld=>?_)
   clear hK K
   refine dY arh ?_
   refine jC (i:=11) (N:=some 24) #[ac,ac,ac,ac,ac,ac,ac,ac,ac,ac,ac,ac,ac,ac,ac,al,al,al] rfl rfl (mI eH.out aT) (by decide) (fun K hK=>?_)
   refine jm Try.func117 aT rfl #[Z ab aH] (by rfl) rfl rfl jQ ?_
   with_reducible refine (bF.calls aH t151 _ A6.out).mono ?_
   rintro e w21 ⟨rfl,hb⟩
   refine ⟨_,rfl,?_⟩
   replace iB:=xV iB hb
   replace fC:=bJ fC hb
   replace HB:=cK HB hb
   (try clear hb)
   (try clear hb2)
   (try clear hk)
   (try clear hi)
   refine hK.out _ _ (mH fC.out) (fun hHeld=>?_)
   clear hK K
   refine dY ao3 ?_
   refine jC (i:=15) (N:=some 28) #[ac,ac,ac,ac,ac,ac,ac,ac,ac,ac,ac,ac,ac,ac,ac,ac,al,al] rfl rfl (mI eH.out aT) (by decide) (fun K hK=>?_)
   refine jm Try.func117 aT rfl #[Z ab aG] (by rfl) rfl rfl jQ ?_
   with_reducible refine (bF.calls aG t152 _ A7.out).mono ?_
   rintro e w22 ⟨rfl,hb⟩
   refine ⟨_,rfl,?_⟩
   replace iB:=xV iB hb
   replace fC:=bJ fC hb
   replace HB:=cK HB hb
   (try clear hb)
   (try clear hb2)
   (try clear hk)
   (try clear hi)
   refine hK.out _ _ (mH fC.out) (fun hHeld=>?_)
   clear hK K
   refine dY ark ?_
   refine dG (i:=16) (N:=some 29) (bC eH.out aT) ?_
   refine dG (i:=17) (N:=some 30) (bC eH.out aT) ?_
   refine ma (zW eH.out aT) ?_
   try go_wp2
   go_ret
   exact ⟨arl,eZ⟩
  ·rw [if_neg c11] at H
   have PZ:decide (268435456 < (ag2)) = false:=decide_eq_false c11
   clear c11
   obtain rfl:=Option.some.inj H
   go_enter Try.func67,Try.ntmps67
   try go_wp2_with (first|((with_reducible refine aI (N:=1) rfl ?_);refine aC (by rfl) (N:=1) (by rfl) (cs:=#[Z ab ax,Z ab av,Z ab aH,Z ab aG]) (t:=31) gu ?_;intro E9 hg w23 hbox hb;have fC:=ag.mk (hbox);have anz:=cB HB hg;have anA:=cB HB hg;replace HB:=cK HB hb;clear hb hbox hg;obtain ⟨LQ,LU,adr,ads,LV,LW,adt,adu⟩:=jr fC.out)|((with_reducible refine aI (N:=8) rfl ?_);refine Kd.FT k27 _ 27 (by rfl) (N:=8) (by rfl) (xs:=([(⟨ax,av⟩:gm),(⟨aH,aG⟩:gm)]:List (gm))) (inner:=[Z ab ax,Z ab av,Z ab aH,Z ab aG]) (ok:=fun _=>True) (okp:=fun _=>True) gu ao2 (fun _ hk=>hk) trivial (Below.refl _ _) (Nat.le_refl _) (by simp) ?_;intro v146 w25 ag4 hb Yv sF;clear Yv sF;(first|rw [← Sb.out] at ag4|(simp only [Int.reduceToNat] at ag4;rw [← Sb.out] at ag4));have iB:=ag.mk (Kd.jS ag4 (gz eZ));replace fC:=bJ fC hb;replace HB:=cK HB hb;clear hb ag4;obtain ⟨aBO,aBP,aBQ⟩:=Kd.jT iB.out;subst aBQ)|((with_reducible refine aR (f:=116) rfl ?_);refine bU (some 9) rfl rfl Try.func116 aT rfl #[.slice aBO abv.length aBP] rfl jQ ?_;(with_reducible refine (bA.calls k _ _ abv t148 _ ?dP ?dQ A2.out).mono ?_);(case dP=>repeat (first|exact (Kd.dO iB.out).2.2|(with_reducible refine Kd.bR ?_ _)|(with_reducible refine Kd.bS ?_ _)|(with_reducible refine Kd.dA ?_)));(case dQ=>exact (Kd.dO iB.out).2.1);rintro e w28 ⟨rfl,hb⟩;refine ⟨_,rfl,?_⟩;replace iB:=xV iB hb;replace fC:=bJ fC hb;replace HB:=cK HB hb;(try clear hb);(try clear hb2);(try clear hk);(try clear hi)))
   replace iB:=ag.mk (Kd.mD iB.out)
   replace fC:=ag.mk (au fC.out)
   replace HB:=ag.mk (bf HB.out)
   refine lh (n:=18) (S:=fun w'=>w'.cell? ⟨E9,0,none⟩ = some (Z ab ax)∧w'.cell? ⟨E9,1,none⟩ = some (Z ab av)∧w'.cell? ⟨E9,2,none⟩ = some (Z ab aH)∧w'.cell? ⟨E9,3,none⟩ = some (Z ab aG)) (ds:=[]) #[al,al,al,al,al,al,al,al,al,al,al,al,al,al,al,al,al,al] aT rfl rfl (mH fC.out) (fun hHeld=>?_);refine rD bH.arc bH.anx (fun eH zV=>?_)
   generalize w28.drew = w29 at iB fC HB hHeld ⊢
   refine dG (i:=0) (N:=some 13) (bC eH.out aT) ?_
   refine dG (i:=1) (N:=some 14) (bC eH.out aT) ?_
   refine dG (i:=4) (N:=some 17) (bC eH.out aT) ?_
   refine dG (i:=5) (N:=some 18) (bC eH.out aT) ?_
   refine dG (i:=8) (N:=some 21) (bC eH.out aT) ?_
   refine dG (i:=9) (N:=some 22) (bC eH.out aT) ?_
   refine dG (i:=12) (N:=some 25) (bC eH.out aT) ?_
   refine dG (i:=13) (N:=some 26) (bC eH.out aT) ?_
   refine iy (i:=2) (N:=some 15) (dL eH.out zV.out aT) hHeld ?_
   refine iy (i:=6) (N:=some 19) (dL eH.out zV.out aT) hHeld ?_
   refine iy (i:=10) (N:=some 23) (dL eH.out zV.out aT) hHeld ?_
   refine iy (i:=14) (N:=some 27) (dL eH.out zV.out aT) hHeld ?_
   refine jC (i:=3) (N:=some 16) #[ac,ac,ac,ac,ac,ac,ac,al,ac,ac,ac,al,ac,ac,ac,al,al,al] rfl rfl (mI eH.out aT) (by decide) (fun K hK=>?_)
   refine jm Try.func117 aT rfl #[Z ab ax] (by rfl) rfl rfl jQ ?_
   with_reducible refine (bF.calls ax t149 _ A4.out).mono ?_
   rintro e w30 ⟨rfl,hb⟩
   refine ⟨_,rfl,?_⟩
   replace iB:=xV iB hb
   replace fC:=bJ fC hb
   replace HB:=cK HB hb
   (try clear hb)
   (try clear hb2)
   (try clear hk)
   (try clear hi)
   refine hK.out _ _ (mH fC.out) (fun hHeld=>?_)
   clear hK K
   refine dY afP ?_
   refine jC (i:=7) (N:=some 20) #[ac,ac,ac,ac,ac,ac,ac,ac,ac,ac,ac,al,ac,ac,ac,al,al,al] rfl rfl (mI eH.out aT) (by decide) (fun K hK=>?_)
   refine jm Try.func117 aT rfl #[Z ab av] (by rfl) rfl rfl jQ ?_
   with_reducible refine (bF.calls av t150 _ A5.out).mono ?_
   rintro e w31 ⟨rfl,hb⟩
   refine ⟨_,rfl,?_⟩
   replace iB:=xV iB hb
   replace fC:=bJ fC hb
   replace HB:=cK HB hb
   (try clear hb)
   (try clear hb2)
   (try clear hk)
   (try clear hi)
   refine hK.out _ _ (mH fC.out) (fun hHeld=>?_)
   clear hK K
   refine dY arh ?_
   refine jC (i:=11) (N:=some 24) #[ac,ac,ac,ac,ac,ac,ac,ac,ac,ac,ac,ac,ac,ac,ac,al,al,al] rfl rfl (mI eH.out aT) (by decide) (fun K hK=>?_)
   refine jm Try.func117 aT rfl #[Z ab aH] (by rfl) rfl rfl jQ ?_
   with_reducible refine (bF.calls aH t151 _ A6.out).mono ?_
   rintro e w32 ⟨rfl,hb⟩
   refine ⟨_,rfl,?_⟩
   replace iB:=xV iB hb
   replace fC:=bJ fC hb
   replace HB:=cK HB hb
   (try clear hb)
   (try clear hb2)
   (try clear hk)
   (try clear hi)
   refine hK.out _ _ (mH fC.out) (fun hHeld=>?_)
   clear hK K
   refine dY ao3 ?_
   refine jC (i:=15) (N:=some 28) #[ac,ac,ac,ac,ac,ac,ac,ac,ac,ac,ac,ac,ac,ac,ac,ac,al,al] rfl rfl (mI eH.out aT) (by decide) (fun K hK=>?_)
   refine jm Try.func117 aT rfl #[Z ab aG] (by rfl) rfl rfl jQ ?_
   with_reducible refine (bF.calls aG t152 _ A7.out).mono ?_
   rintro e w33 ⟨rfl,hb⟩
   refine ⟨_,rfl,?_⟩
   replace iB:=xV iB hb
   replace fC:=bJ fC hb
   replace HB:=cK HB hb
   (try clear hb)
   (try clear hb2)
   (try clear hk)
   (try clear hi)
   refine hK.out _ _ (mH fC.out) (fun hHeld=>?_)
   clear hK K
   refine dY ark ?_
   refine dG (i:=16) (N:=some 29) (bC eH.out aT) ?_
   refine dG (i:=17) (N:=some 30) (bC eH.out aT) ?_
   refine ma (zW eH.out aT) ?_
   try go_wp2
   go_ret
   exact ⟨arl,eZ⟩
 ·rw [if_neg c3] at H
  have PY:(t148 == 0) = false:=beq_eq_false_iff_ne.mpr c3
  have Yu:(t148 != 0) = true:=bne_iff_ne.mpr c3
  obtain rfl:=Option.some.inj H
  go_enter Try.func67,Try.ntmps67
  go_wp2_with (first|((with_reducible refine aI (N:=1) rfl ?_);refine aC (by rfl) (N:=1) (by rfl) (cs:=#[Z ab ax,Z ab av,Z ab aH,Z ab aG]) (t:=31) gu ?_;intro E9 hg w34 hbox hb;have fC:=ag.mk (hbox);have anz:=cB HB hg;have anA:=cB HB hg;replace HB:=cK HB hb;clear hb hbox hg;obtain ⟨vW,vX,Dr,Dt,vY,vZ,Du,Dv⟩:=jr fC.out)|((with_reducible refine aI (N:=8) rfl ?_);refine Kd.FT k27 _ 27 (by rfl) (N:=8) (by rfl) (xs:=([(⟨ax,av⟩:gm),(⟨aH,aG⟩:gm)]:List (gm))) (inner:=[Z ab ax,Z ab av,Z ab aH,Z ab aG]) (ok:=fun _=>True) (okp:=fun _=>True) gu ao2 (fun _ hk=>hk) trivial (Below.refl _ _) (Nat.le_refl _) (by simp) ?_;intro v146 w36 ag5 hb Yv sF;clear Yv sF;(first|rw [← Sb.out] at ag5|(simp only [Int.reduceToNat] at ag5;rw [← Sb.out] at ag5));have iB:=ag.mk (Kd.jS ag5 (gz eZ));replace fC:=bJ fC hb;replace HB:=cK HB hb;clear hb ag5;obtain ⟨aBS,aBT,aBU⟩:=Kd.jT iB.out;subst aBU)|((with_reducible refine aR (f:=116) rfl ?_);refine bU (some 9) rfl rfl Try.func116 aT rfl #[.slice aBS abv.length aBT] rfl jQ ?_;(with_reducible refine (bA.calls k _ _ abv t148 _ ?dP ?dQ A2.out).mono ?_);(case dP=>repeat (first|exact (Kd.dO iB.out).2.2|(with_reducible refine Kd.bR ?_ _)|(with_reducible refine Kd.bS ?_ _)|(with_reducible refine Kd.dA ?_)));(case dQ=>exact (Kd.dO iB.out).2.1);rintro e w39 ⟨rfl,hb⟩;refine ⟨_,rfl,?_⟩;replace iB:=xV iB hb;replace fC:=bJ fC hb;replace HB:=cK HB hb;(try clear hb);(try clear hb2);(try clear hk);(try clear hi)))
  go_ret
  exact ⟨mf,eZ⟩
def jW.f (k:Nat) (ax:Int) (av:Int) (aH:Int) (aG:Int) (a1:Int):Option (Int):=(bH.f k ax av aH aG).bind fun t154=>(if t154 = 0 then ((aV.f a1 0 1073741824).bind fun t155=>(if t155 = true then (some 0) else (some 3))) else (some t154))
set_option maxHeartbeats 8000000 in
set_option maxRecDepth 100000 in
theorem jW.calls (k:Nat) (ax:Int) (av:Int) (aH:Int) (aG:Int) (a1:Int) (r:Int) (w:World) (h:jW.f k ax av aH aG a1 = some r):
 Calls Try.prog 114 #[.agg #[Z ab ax,Z ab av,Z ab aH,Z ab aG],Z ab a1] w fun e w'=>e = .returned (Z ab r)∧Below w.heap.size w w':=by
 have pG:=Try.underlying31
 have HB:=ag.mk (Below.refl w.heap.size w)
 have H:((bH.f k ax av aH aG).bind fun t154=>(if t154 = 0 then ((aV.f a1 0 1073741824).bind fun t155=>(if t155 = true then (some 0) else (some 3))) else (some t154))) = some r:=h
 clear h
 replace H:=Option.bind_eq_some_iff.mp H
 obtain ⟨t154,A30,H⟩:=H
 replace H:(if t154 = 0 then ((aV.f a1 0 1073741824).bind fun t155=>(if t155 = true then (some 0) else (some 3))) else (some t154)) = some r:=H
 have A3:=ag.mk A30
 clear A30
 by_cases c4:t154 = 0
 ·rw [if_pos c4] at H
  have xW:(t154 == 0) = true:=beq_iff_eq.mpr c4
  have ao4:(t154 != 0) = false:=bne_eq_false_iff_eq.mpr c4
  clear c4
  replace H:=Option.bind_eq_some_iff.mp H
  obtain ⟨t155,A50,H⟩:=H
  replace H:(if t155 = true then (some 0) else (some 3)) = some r:=H
  have A5:=ag.mk A50
  clear A50
  by_cases c6:t155 = true
  ·subst c6
   have H1:(some 0) = some r:=by rw [if_pos rfl] at H;exact H
   clear H
   have H:=H1
   clear H1
   obtain rfl:=Option.some.inj H
   go_enter Try.func114,Try.ntmps114
   go_wp2_with (first|((with_reducible refine aI (N:=2) rfl ?_);refine aC (by rfl) (N:=2) (by rfl) (cs:=#[Z ab ax,Z ab av,Z ab aH,Z ab aG]) (t:=31) gu ?_;intro anD hg w7 hbox hb;have Ch:=ag.mk (hbox);have anE:=cB HB hg;have anF:=cB HB hg;replace HB:=cK HB hb;clear hb hbox hg;obtain ⟨ag7,ag8,aBV,aBW,ag9,aha,aBX,aBY⟩:=jr Ch.out)|((with_reducible refine aR (f:=67) rfl ?_);refine bU (some 7) rfl rfl Try.func67 aT rfl #[.agg #[Z ab ax,Z ab av,Z ab aH,Z ab aG]] rfl jQ ?_;(with_reducible refine (bH.calls k ax av aH aG t154 _ A3.out).mono ?_);rintro e w9 ⟨rfl,hb⟩;refine ⟨_,rfl,?_⟩;replace Ch:=bJ Ch hb;replace HB:=cK HB hb;(try clear hb);(try clear hb2);(try clear hk);(try clear hi))|((with_reducible refine aR (f:=74) rfl ?_);refine bU (some 12) rfl rfl Try.func74 aT rfl #[Z ab a1,Z ab 0,Z ab 1073741824] rfl jQ ?_;(with_reducible refine (aV.calls a1 0 1073741824 true _ A5.out).mono ?_);rintro e w' ⟨rfl,⟨nd,rfl⟩⟩;refine ⟨_,rfl,?_⟩))
   go_ret
   exact ⟨mf,eZ⟩
  ·replace c6:=Bool.eq_false_iff.mpr c6
   subst c6
   have H1:(some 3) = some r:=by rw [if_neg (show ¬ (false = true) by decide)] at H;exact H
   clear H
   have H:=H1
   clear H1
   obtain rfl:=Option.some.inj H
   go_enter Try.func114,Try.ntmps114
   go_wp2_with (first|((with_reducible refine aI (N:=2) rfl ?_);refine aC (by rfl) (N:=2) (by rfl) (cs:=#[Z ab ax,Z ab av,Z ab aH,Z ab aG]) (t:=31) gu ?_;intro anD hg w10 hbox hb;have Ch:=ag.mk (hbox);have anE:=cB HB hg;have anF:=cB HB hg;replace HB:=cK HB hb;clear hb hbox hg;obtain ⟨uG,uH,zX,zY,uI,uJ,zZ,z8⟩:=jr Ch.out)|((with_reducible refine aR (f:=67) rfl ?_);refine bU (some 7) rfl rfl Try.func67 aT rfl #[.agg #[Z ab ax,Z ab av,Z ab aH,Z ab aG]] rfl jQ ?_;(with_reducible refine (bH.calls k ax av aH aG t154 _ A3.out).mono ?_);rintro e F6 ⟨rfl,hb⟩;refine ⟨_,rfl,?_⟩;replace Ch:=bJ Ch hb;replace HB:=cK HB hb;(try clear hb);(try clear hb2);(try clear hk);(try clear hi))|((with_reducible refine aR (f:=74) rfl ?_);refine bU (some 12) rfl rfl Try.func74 aT rfl #[Z ab a1,Z ab 0,Z ab 1073741824] rfl jQ ?_;(with_reducible refine (aV.calls a1 0 1073741824 false _ A5.out).mono ?_);rintro e w' ⟨rfl,⟨nd,rfl⟩⟩;refine ⟨_,rfl,?_⟩))
   go_ret
   exact ⟨mf,eZ⟩
 ·rw [if_neg c4] at H
  have xW:(t154 == 0) = false:=beq_eq_false_iff_ne.mpr c4
  have ao4:(t154 != 0) = true:=bne_iff_ne.mpr c4
  obtain rfl:=Option.some.inj H
  go_enter Try.func114,Try.ntmps114
  go_wp2_with (first|((with_reducible refine aI (N:=2) rfl ?_);refine aC (by rfl) (N:=2) (by rfl) (cs:=#[Z ab ax,Z ab av,Z ab aH,Z ab aG]) (t:=31) gu ?_;intro anD hg Yq hbox hb;have Ch:=ag.mk (hbox);have anE:=cB HB hg;have anF:=cB HB hg;replace HB:=cK HB hb;clear hb hbox hg;obtain ⟨Dk,Dl,Tj,Tk,Dm,Dn,Tm,Tn⟩:=jr Ch.out)|((with_reducible refine aR (f:=67) rfl ?_);refine bU (some 7) rfl rfl Try.func67 aT rfl #[.agg #[Z ab ax,Z ab av,Z ab aH,Z ab aG]] rfl jQ ?_;(with_reducible refine (bH.calls k ax av aH aG t154 _ A3.out).mono ?_);rintro e w15 ⟨rfl,hb⟩;refine ⟨_,rfl,?_⟩;replace Ch:=bJ Ch hb;replace HB:=cK HB hb;(try clear hb);(try clear hb2);(try clear hk);(try clear hi)))
  go_ret
  exact ⟨mf,eZ⟩
def bV.l0:Nat→Int→List (eQ)→Int→Int→Option (Int)
 |0,_,_,_,_=>none
 |k+1,x1,x10,x11,RF=>if RF < x11 then (if 0≤RF then (if RF < (x10.length:Int) then (if ((iO x10 RF).f0) < 0 then (some 2) else (if ((iO x10 RF).f0) ≥ 9 then (some 2) else (if ((iO x10 RF).f1) < 0 then (some 2) else (if x1 ≥ 0 then (if ((iO x10 RF).f1) ≥ x1 then (some 2) else (bV.l0 k x1 x10 x11 (wrap64 (RF+1)))) else (bV.l0 k x1 x10 x11 (wrap64 (RF+1))))))) else (none)) else (none)) else (some 0)
def bV.f (k:Nat) (l0:List (eQ)) (a1:Int):Option (Int):=if (l0.length:Int) > 64 then (some 6) else (bV.l0 k a1 l0 (l0.length:Int) 0)
set_option maxHeartbeats 8000000 in
set_option maxRecDepth 100000 in
theorem bV.calls (k:Nat) (A0:Option Addr) (c0:Nat) (l0:List (eQ)) (a1:Int) (r:Int) (w:World) (hr0:Kd.C TP w A0 l0.length l0) (hc0:l0.length≤c0) (h:bV.f k l0 a1 = some r):
 Calls Try.prog 65 #[.slice A0 l0.length c0,Z ab a1] w fun e w'=>e = .returned (Z ab r)∧Below w.heap.size w w':=by
 have F5:=Try.underlying33
 have HR0:=ag.mk hr0
 have HC0:=ag.mk hc0
 clear hr0 hc0
 have HB:=ag.mk (Below.refl w.heap.size w)
 have H:(if (l0.length:Int) > 64 then (some 6) else (bV.l0 k a1 l0 (l0.length:Int) 0)) = some r:=h
 clear h
 by_cases c3:(l0.length:Int) > 64
 ·rw [if_pos c3] at H
  have PY:decide (64 < (l0.length:Int)) = true:=decide_eq_true c3
  have Yu:decide (64 < l0.length) = true:=decide_eq_true (by omega)
  clear c3
  obtain rfl:=Option.some.inj H
  go_enter Try.func65,Try.ntmps65
  go_wp2
  go_ret
  exact ⟨mf,eZ⟩
 ·rw [if_neg c3] at H
  have PY:decide (64 < (l0.length:Int)) = false:=decide_eq_false c3
  have Yu:decide (64 < l0.length) = false:=decide_eq_false (by omega)
  clear c3
  have H':=ag.mk H
  clear H
  go_enter Try.func65,Try.ntmps65
  go_wp2
  go_loopg [12] k (fun kq v12 w'=>∃ (gT:Int),v12 = Z ab gT∧ag (bV.l0 kq a1 l0 (l0.length:Int) gT = some r)∧ag (kq≤k)∧ag (Below w.heap.size w w'))
  case atStart=>exact ⟨(0),sG,H',⟨Nat.le_refl _⟩,⟨eZ⟩⟩
  case round =>
   clear H'
   try clear p2
   try clear c3
   try clear PY
   try clear Yu
   obtain ⟨gT,rfl,HA,HK1,HB⟩:=hrel
   cases gk with
   |zero=>exact absurd HA.out (by simp [bV.l0])
   |succ k1 =>
    have H:=HA.out
    clear HA
    simp only [bV.l0] at H
    by_cases c4:gT < (l0.length:Int)
    ·rw [if_pos c4] at H
     have xW:decide (gT < (l0.length:Int)) = true:=decide_eq_true c4
     clear c4
     by_cases c5:0≤gT
     ·rw [if_pos c5] at H
      have Ls:decide (0≤gT) = true:=decide_eq_true c5
      clear c5
      by_cases c6:gT < (l0.length:Int)
      ·rw [if_pos c6] at H
       have P5:decide (gT < (l0.length:Int)) = true:=decide_eq_true c6
       clear c6
       by_cases c7:((iO l0 gT).f0) < 0
       ·rw [if_pos c7] at H
        have abw:decide (((iO l0 gT).f0) < 0) = true:=decide_eq_true c7
        clear c7
        obtain rfl:=Option.some.inj H
        have u6:0≤(gT:Int):=of_decide_eq_true zx
        have u7:gT < (l0.length:Int):=of_decide_eq_true zx
        obtain ⟨Yw,P6,iC,iD⟩:=Ci HR0.out gT u6 u7
        cases P6
        replace iC:=(HB.out.cell (World.block_lt_of_cell? w _ iC)).trans iC
        replace iD:=(HB.out.cell (World.block_lt_of_cell? w _ iD)).trans iD
        replace u6:=eq_true u6
        replace u7:=eq_true u7
        go_wp2_with (first|((with_reducible refine aI (N:=6) rfl ?_);refine aC (by rfl) (N:=6) (by rfl) (cs:=#[Z ab 0,Z ab 0]) (t:=33) gu ?_;intro Yx hg w8 hbox hb;have Cj:=ag.mk (hbox);have Yy:=cB HB hg;have Yz:=cB HB hg;replace HB:=cK HB hb;clear hb hbox hg;obtain ⟨Fv,Fw,Fx,Fy⟩:=iq Cj.out))
        go_ret
        exact ⟨mf,eZ⟩
       ·rw [if_neg c7] at H
        have abw:decide (((iO l0 gT).f0) < 0) = false:=decide_eq_false c7
        clear c7
        by_cases c10:((iO l0 gT).f0) ≥ 9
        ·rw [if_pos c10] at H
         have Sd:decide (9≤((iO l0 gT).f0)) = true:=decide_eq_true c10
         clear c10
         obtain rfl:=Option.some.inj H
         have u6:0≤(gT:Int):=of_decide_eq_true zx
         have u7:gT < (l0.length:Int):=of_decide_eq_true zx
         obtain ⟨Yw,P6,iC,iD⟩:=Ci HR0.out gT u6 u7
         cases P6
         replace iC:=(HB.out.cell (World.block_lt_of_cell? w _ iC)).trans iC
         replace iD:=(HB.out.cell (World.block_lt_of_cell? w _ iD)).trans iD
         replace u6:=eq_true u6
         replace u7:=eq_true u7
         go_wp2_with (first|((with_reducible refine aI (N:=6) rfl ?_);refine aC (by rfl) (N:=6) (by rfl) (cs:=#[Z ab 0,Z ab 0]) (t:=33) gu ?_;intro Yx hg w11 hbox hb;have Cj:=ag.mk (hbox);have Yy:=cB HB hg;have Yz:=cB HB hg;replace HB:=cK HB hb;clear hb hbox hg;obtain ⟨vK,vL,vM,vN⟩:=iq Cj.out))
         go_ret
         exact ⟨mf,eZ⟩
        ·rw [if_neg c10] at H
         have Sd:decide (9≤((iO l0 gT).f0)) = false:=decide_eq_false c10
         clear c10
         by_cases c13:((iO l0 gT).f1) < 0
         ·rw [if_pos c13] at H
          have ahd:decide (((iO l0 gT).f1) < 0) = true:=decide_eq_true c13
          clear c13
          obtain rfl:=Option.some.inj H
          have u6:0≤(gT:Int):=of_decide_eq_true zx
          have u7:gT < (l0.length:Int):=of_decide_eq_true zx
          obtain ⟨Yw,P6,iC,iD⟩:=Ci HR0.out gT u6 u7
          cases P6
          replace iC:=(HB.out.cell (World.block_lt_of_cell? w _ iC)).trans iC
          replace iD:=(HB.out.cell (World.block_lt_of_cell? w _ iD)).trans iD
          replace u6:=eq_true u6
          replace u7:=eq_true u7
          go_wp2_with (first|((with_reducible refine aI (N:=6) rfl ?_);refine aC (by rfl) (N:=6) (by rfl) (cs:=#[Z ab 0,Z ab 0]) (t:=33) gu ?_;intro Yx hg w14 hbox hb;have Cj:=ag.mk (hbox);have Yy:=cB HB hg;have Yz:=cB HB hg;replace HB:=cK HB hb;clear hb hbox hg;obtain ⟨uA,uB,uC,uD⟩:=iq Cj.out))
          go_ret
          exact ⟨mf,eZ⟩
         ·rw [if_neg c13] at H
          have ahd:decide (((iO l0 gT).f1) < 0) = false:=decide_eq_false c13
          clear c13
          by_cases c16:a1 ≥ 0
          ·rw [if_pos c16] at H
           have Sg:decide (0≤a1) = true:=decide_eq_true c16
           clear c16
           by_cases c17:((iO l0 gT).f1) ≥ a1
           ·rw [if_pos c17] at H
            have yA:decide (a1≤((iO l0 gT).f1)) = true:=decide_eq_true c17
            clear c17
            obtain rfl:=Option.some.inj H
            have u6:0≤(gT:Int):=of_decide_eq_true zx
            have u7:gT < (l0.length:Int):=of_decide_eq_true zx
            obtain ⟨Yw,P6,iC,iD⟩:=Ci HR0.out gT u6 u7
            cases P6
            replace iC:=(HB.out.cell (World.block_lt_of_cell? w _ iC)).trans iC
            replace iD:=(HB.out.cell (World.block_lt_of_cell? w _ iD)).trans iD
            replace u6:=eq_true u6
            replace u7:=eq_true u7
            go_wp2_with (first|((with_reducible refine aI (N:=6) rfl ?_);refine aC (by rfl) (N:=6) (by rfl) (cs:=#[Z ab 0,Z ab 0]) (t:=33) gu ?_;intro Yx hg w18 hbox hb;have Cj:=ag.mk (hbox);have Yy:=cB HB hg;have Yz:=cB HB hg;replace HB:=cK HB hb;clear hb hbox hg;obtain ⟨wh,wm,wo,wu⟩:=iq Cj.out))
            go_ret
            exact ⟨mf,eZ⟩
           ·rw [if_neg c17] at H
            have yA:decide (a1≤((iO l0 gT).f1)) = false:=decide_eq_false c17
            clear c17
            have H':=ag.mk H
            clear H
            have u6:0≤(gT:Int):=of_decide_eq_true zx
            have u7:gT < (l0.length:Int):=of_decide_eq_true zx
            obtain ⟨Yw,P6,iC,iD⟩:=Ci HR0.out gT u6 u7
            cases P6
            replace iC:=(HB.out.cell (World.block_lt_of_cell? w _ iC)).trans iC
            replace iD:=(HB.out.cell (World.block_lt_of_cell? w _ iD)).trans iD
            replace u6:=eq_true u6
            replace u7:=eq_true u7
            go_wp2_with (first|((with_reducible refine aI (N:=6) rfl ?_);refine aC (by rfl) (N:=6) (by rfl) (cs:=#[Z ab 0,Z ab 0]) (t:=33) gu ?_;intro Yx hg Fa hbox hb;have Cj:=ag.mk (hbox);have Yy:=cB HB hg;have Yz:=cB HB hg;replace HB:=cK HB hb;clear hb hbox hg;obtain ⟨Aa,Ab,Ac,Ad⟩:=iq Cj.out))
            go_roundg k1
            case measure=>have:=HK1.out;omega
            case rel=>exact ⟨(wrap64 (gT+1)),sG,H',⟨YA⟩,⟨eZ⟩⟩
          ·rw [if_neg c16] at H
           have Sg:decide (0≤a1) = false:=decide_eq_false c16
           clear c16
           have H':=ag.mk H
           clear H
           have u6:0≤(gT:Int):=of_decide_eq_true zx
           have u7:gT < (l0.length:Int):=of_decide_eq_true zx
           obtain ⟨Yw,P6,iC,iD⟩:=Ci HR0.out gT u6 u7
           cases P6
           replace iC:=(HB.out.cell (World.block_lt_of_cell? w _ iC)).trans iC
           replace iD:=(HB.out.cell (World.block_lt_of_cell? w _ iD)).trans iD
           replace u6:=eq_true u6
           replace u7:=eq_true u7
           go_wp2_with (first|((with_reducible refine aI (N:=6) rfl ?_);refine aC (by rfl) (N:=6) (by rfl) (cs:=#[Z ab 0,Z ab 0]) (t:=33) gu ?_;intro Yx hg w22 hbox hb;have Cj:=ag.mk (hbox);have Yy:=cB HB hg;have Yz:=cB HB hg;replace HB:=cK HB hb;clear hb hbox hg;obtain ⟨Ae,Af,Ag,Ah⟩:=iq Cj.out))
           go_roundg k1
           case measure=>have:=HK1.out;omega
           case rel=>exact ⟨(wrap64 (gT+1)),sG,H',⟨YA⟩,⟨eZ⟩⟩
      ·rw [if_neg c6] at H
       exact absurd H (by simp)
     ·rw [if_neg c5] at H
      exact absurd H (by simp)
    ·rw [if_neg c4] at H
     have xW:decide (gT < (l0.length:Int)) = false:=decide_eq_false c4
     clear c4
     obtain rfl:=Option.some.inj H
     go_wp2
     go_ret
     exact ⟨mf,eZ⟩
end Go.Proofs.Ytmhaiihjfgfaoaa.Pr
end
