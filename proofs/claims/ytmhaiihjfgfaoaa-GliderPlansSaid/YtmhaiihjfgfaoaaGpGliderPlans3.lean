import Derived.Test.YtmhaiihjfgfaoaaGpGliderPlans1
import Derived.Test.YtmhaiihjfgfaoaaGpGliderPlans2
set_option linter.unusedVariables false
set_option linter.unusedSimpArgs false
open Option.some renaming inj → bh
open Option renaming bind_some → aE
open List renaming setIfInBounds_toArray → ap, set_cons_zero → aq, set_cons_succ → ar
open Go.World renaming block_lt_of_cell? → bd
set_option maxRecDepth 100000
set_option maxHeartbeats 80000000
open Go.Value renaming int → Z
open Go.IntKind renaming i64 → ab
open Bool renaming true → ac, false → al
open Go.RowKit renaming wrap64 → an
open Go renaming World → ao
section
namespace Go.Proofs.Ytmhaiihjfgfaoaa.Gl
open Go.RowKit Go.Shelf Go.Proofs.YtmhaiihjfgfaoaaW.bu Go.Proofs.YtmhaiihjfgfaoaaW.dB Go.Proofs.YtmhaiihjfgfaoaaW.ek Go.Proofs.Ytmhaiihjfgfaoaa.Pr Go.Proofs.YtmhaiihjfgfaoaaW.Round
attribute [local go_sem] iq iw jq jr iy
def LY (h:Int):Int × Int:=if h = 0 then (0,1000) else if h = 1 then (707,707) else if h = 2 then (1000,0) else if h = 3 then (707,-707) else if h = 4 then (0,-1000) else if h = 5 then (-707,-707) else if h = 6 then (-1000,0) else if h = 7 then (-707,707) else if h = 8 then (0,0) else (0,0)
theorem Z6 (h:Int):(-1000≤(LY h).1∧(LY h).1≤1000)∧(-1000≤(LY h).2∧(LY h).2≤1000):=by
 unfold LY
 repeat' split
 all_goals decide
theorem adQ (w:ao):Calls Try.prog 130 #[] w (yw (.agg #[Z ab 0,Z ab 1000,Z ab 707,Z ab 707,Z ab 1000,Z ab 0,Z ab 707,Z ab (-707),Z ab 0,Z ab (-1000),Z ab (-707),Z ab (-707),Z ab (-1000),Z ab 0,Z ab (-707),Z ab 707,Z ab 0,Z ab 0]) w):=by
 have aF8:=Try.underlying162
 have aF9:=Try.underlying161
 go_enter Try.func130,Try.ntmps130
 go_wp2
 exact bodyPost_ret (results_cell_row rfl _ _ w.heap.size 162 #[Z ab 0,Z ab 1000,Z ab 707,Z ab 707,Z ab 1000,Z ab 0,Z ab 707,Z ab (-707),Z ab 0,Z ab (-1000),Z ab (-707),Z ab (-707),Z ab (-1000),Z ab 0,Z ab (-707),Z ab 707,Z ab 0,Z ab 0] (0,0) _ rfl (eB w _) Try.underlying162 rfl aT) rfl ⟨rfl,aH (Below.refl _ w) _⟩
def EA (s:lK) (v:nW) (x rb:iA) (t heading layer:Int):iA:=⟨qR v.bq x.f0 ((LY heading).1*v.speed) (XG s rb layer t (t+v.bq)).f0,qR v.bq x.f1 ((LY heading).2*v.speed) (XG s rb layer t (t+v.bq)).f1⟩
theorem ao9 (b:Nat) (se:lK) (v:nW) (x rb:iA) (t hd layer:Int) (w:ao) (hT:lC w b se v) (hS:Cm se) (hV:Fz v) (hcu:(se.aC.length:Int) = se.slots*se.layers*(se.nx*se.ny)) (hcb:aCF se) (hx:JC x) (hr:Yk se rb) (ht0:0≤t) (ht2:t+v.bq≤se.slots*se.slot) (hh0:0≤hd) (hh1:hd≤8) (hl0:0≤layer) (hl1:layer < se.layers):
 Calls Try.prog 101 #[.pointer (some ⟨b,0,none⟩),.agg #[Z ab x.f0.f0,Z ab x.f0.f1,Z ab x.f1.f0,Z ab x.f1.f1],.agg #[Z ab rb.f0.f0,Z ab rb.f0.f1,Z ab rb.f1.f0,Z ab rb.f1.f1],Z ab t,.agg #[Z ab hd,Z ab layer]] w (yw (.agg #[Z ab (EA se v x rb t hd layer).f0.f0,Z ab (EA se v x rb t hd layer).f0.f1,Z ab (EA se v x rb t hd layer).f1.f0,Z ab (EA se v x rb t hd layer).f1.f1]) w):=by
 have qj:=Try.underlying31
 have oO:=Try.underlying27
 have aF9:=Try.underlying161
 have aF8:=Try.underlying162
 have E9:=Try.underlying33
 have hdv:=hV.bq
 have hsp:=hV.speed
 have hss:=je (show 0≤se.slots by have:=hS.slots;omega) hS.slots.2 (show 0≤se.slot by have:=hS.slot;omega) hS.slot.2
 have hix:∀ W_:ao,(Instr.index 162 (.agg #[Z ab 0,Z ab 1000,Z ab 707,Z ab 707,Z ab 1000,Z ab 0,Z ab 707,Z ab (-707),Z ab 0,Z ab (-1000),Z ab (-707),Z ab (-707),Z ab (-1000),Z ab 0,Z ab (-707),Z ab 707,Z ab 0,Z ab 0]) (Z ab hd)).run Try.prog W_ = .ok (.agg #[Z ab (LY hd).1,Z ab (LY hd).2]) W_:=by
  have h9:hd = 0∨hd = 1∨hd = 2∨hd = 3∨hd = 4∨hd = 5∨hd = 6∨hd = 7∨hd = 8:=by omega
  rcases h9 with rfl|rfl|rfl|rfl|rfl|rfl|rfl|rfl|rfl <;> exact fun W_=>by kernel_rfl
 have hdi:=Z6 hd
 have hai:=ao5 hcb rb layer t (t+v.bq)
 have kA:=fun u_ (hu_:u_ = t+v.bq) W (h:lC W b se v)=>aCy b se v rb layer t u_ W h hS hr hcu hl0 hl1 ht0 (by omega) (by omega)
 have hyy:∀ u_,u_ = t+v.bq→XG se rb layer t u_ = XG se rb layer t (t+v.bq):=fun u_ h=>by rw [h]
 have HR:Hid (EA se v x rb t hd layer = ⟨qR v.bq x.f0 ((LY hd).1*v.speed) (XG se rb layer t (t+v.bq)).f0,qR v.bq x.f1 ((LY hd).2*v.speed) (XG se rb layer t (t+v.bq)).f1⟩):=Lib.hid rfl
 have kA:=fun u_ (hu_:u_ = t+v.bq) W (h:lC W b se v)=>by have h1:=kA u_ hu_ W h;rw [hyy u_ hu_] at h1;exact h1
 clear hyy
 generalize XG se rb layer t (t+v.bq) = y at*
 generalize LY hd = d at*
 obtain ⟨d0,d1⟩:=d
 dsimp only at hdi hix HR
 have m0:=rP (a:=d0) (b:=v.speed) (m:=1000) (n:=5000) hdi.1.1 hdi.1.2 hsp.1 hsp.2 (by omega)
 have m1:=rP (a:=d1) (b:=v.speed) (m:=1000) (n:=5000) hdi.2.1 hdi.2.2 hsp.1 hsp.2 (by omega)
 have kS0:=fun z_ (hz_:z_ = d0*v.speed) W (h:lC W b se v)=>Yh b se v x.f0 z_ y.f0 W h hV hx.1 hx.2.1 (by omega) hai.1 hai.2.1
 have kS1:=fun z_ (hz_:z_ = d1*v.speed) W (h:lC W b se v)=>Yh b se v x.f1 z_ y.f1 W h hV hx.2.2.1 hx.2.2.2 (by omega) hai.2.2.1 hai.2.2.2.1
 have hT0:=hT
 obtain ⟨A7,c7,A8,c8,mT,_⟩:=hT0
 have w1:an (t+v.bq) = t+v.bq:=by unfold an;omega
 have w2:an (d0*v.speed) = d0*v.speed:=by unfold an;omega
 have w3:an (d1*v.speed) = d1*v.speed:=by unfold an;omega
 clear hx hr hS hV hcu hcb hai hdi hss m0 m1 hdv hsp ht0 ht2 hh0 hh1 hl0 hl1
 go_enter Try.func101,Try.ntmps101
 go_wp2_with fail
 have yz:=bO mT
 have m6:dW ((((w.alloc (.cells #[Z ab x.f0.f0,Z ab x.f0.f1,Z ab x.f1.f0,Z ab x.f1.f1] 31)).alloc (.cells #[Z ab rb.f0.f0,Z ab rb.f0.f1,Z ab rb.f1.f0,Z ab rb.f1.f1] 31)).alloc (.cells #[Z ab hd,Z ab layer] 33)).alloc (.cells #[Z ab 0,Z ab 0,Z ab 0,Z ab 0] 31)) (w.heap.size) #[Z ab x.f0.f0,Z ab x.f0.f1,Z ab x.f1.f0,Z ab x.f1.f1] 31:=(aa (aa (aa aoe _) _) _)
 have m7:dW ((((w.alloc (.cells #[Z ab x.f0.f0,Z ab x.f0.f1,Z ab x.f1.f0,Z ab x.f1.f1] 31)).alloc (.cells #[Z ab rb.f0.f0,Z ab rb.f0.f1,Z ab rb.f1.f0,Z ab rb.f1.f1] 31)).alloc (.cells #[Z ab hd,Z ab layer] 33)).alloc (.cells #[Z ab 0,Z ab 0,Z ab 0,Z ab 0] 31)) (w.heap.size+1) #[Z ab rb.f0.f0,Z ab rb.f0.f1,Z ab rb.f1.f0,Z ab rb.f1.f1] 31:=(aa (aa (by have h_:=eB (w.alloc (.cells #[Z ab x.f0.f0,Z ab x.f0.f1,Z ab x.f1.f0,Z ab x.f1.f1] 31)) (.cells #[Z ab rb.f0.f0,Z ab rb.f0.f1,Z ab rb.f1.f0,Z ab rb.f1.f1] 31);first|exact h_|(simp only [World.size_alloc] at h_;exact h_)) _) _)
 have m9:dW ((((w.alloc (.cells #[Z ab x.f0.f0,Z ab x.f0.f1,Z ab x.f1.f0,Z ab x.f1.f1] 31)).alloc (.cells #[Z ab rb.f0.f0,Z ab rb.f0.f1,Z ab rb.f1.f0,Z ab rb.f1.f1] 31)).alloc (.cells #[Z ab hd,Z ab layer] 33)).alloc (.cells #[Z ab 0,Z ab 0,Z ab 0,Z ab 0] 31)) (w.heap.size+1+1) #[Z ab hd,Z ab layer] 33:=(aa (by have h_:=eB ((w.alloc (.cells #[Z ab x.f0.f0,Z ab x.f0.f1,Z ab x.f1.f0,Z ab x.f1.f1] 31)).alloc (.cells #[Z ab rb.f0.f0,Z ab rb.f0.f1,Z ab rb.f1.f0,Z ab rb.f1.f1] 31)) (.cells #[Z ab hd,Z ab layer] 33);first|exact h_|(simp only [World.size_alloc] at h_;exact h_)) _)
 have m10:dW ((((w.alloc (.cells #[Z ab x.f0.f0,Z ab x.f0.f1,Z ab x.f1.f0,Z ab x.f1.f1] 31)).alloc (.cells #[Z ab rb.f0.f0,Z ab rb.f0.f1,Z ab rb.f1.f0,Z ab rb.f1.f1] 31)).alloc (.cells #[Z ab hd,Z ab layer] 33)).alloc (.cells #[Z ab 0,Z ab 0,Z ab 0,Z ab 0] 31)) (w.heap.size+1+1+1) #[Z ab 0,Z ab 0,Z ab 0,Z ab 0] 31:=(by have h_:=eB (((w.alloc (.cells #[Z ab x.f0.f0,Z ab x.f0.f1,Z ab x.f1.f0,Z ab x.f1.f1] 31)).alloc (.cells #[Z ab rb.f0.f0,Z ab rb.f0.f1,Z ab rb.f1.f0,Z ab rb.f1.f1] 31)).alloc (.cells #[Z ab hd,Z ab layer] 33)) (.cells #[Z ab 0,Z ab 0,Z ab 0,Z ab 0] 31);first|exact h_|(simp only [World.size_alloc] at h_;exact h_))
 replace mT:dW ((((w.alloc (.cells #[Z ab x.f0.f0,Z ab x.f0.f1,Z ab x.f1.f0,Z ab x.f1.f1] 31)).alloc (.cells #[Z ab rb.f0.f0,Z ab rb.f0.f1,Z ab rb.f1.f0,Z ab rb.f1.f1] 31)).alloc (.cells #[Z ab hd,Z ab layer] 33)).alloc (.cells #[Z ab 0,Z ab 0,Z ab 0,Z ab 0] 31)) b #[Z ab se.nx,Z ab se.ny,Z ab se.cell,Z ab se.slot,Z ab se.slots,Z ab se.layers,Z ab se.most,.slice A7 se.bf.length c7,.slice A8 se.aC.length c8,Z ab v.speed,Z ab v.bq,Z ab v.use.f0,Z ab v.use.f1,Z ab v.aV.f0,Z ab v.aV.f1,Z ab v.reserve] 110:=(aa (aa (aa (aa mT _) _) _) _)
 have mB:Below w.heap.size w ((((w.alloc (.cells #[Z ab x.f0.f0,Z ab x.f0.f1,Z ab x.f1.f0,Z ab x.f1.f1] 31)).alloc (.cells #[Z ab rb.f0.f0,Z ab rb.f0.f1,Z ab rb.f1.f0,Z ab rb.f1.f1] 31)).alloc (.cells #[Z ab hd,Z ab layer] 33)).alloc (.cells #[Z ab 0,Z ab 0,Z ab 0,Z ab 0] 31)):=(aH (aH (aH (aH (Below.refl w.heap.size w) _) _) _) _)
 have kZ:w.heap.size≤w.heap.size:=Nat.le_refl _
 generalize qQ:((((w.alloc (.cells #[Z ab x.f0.f0,Z ab x.f0.f1,Z ab x.f1.f0,Z ab x.f1.f1] 31)).alloc (.cells #[Z ab rb.f0.f0,Z ab rb.f0.f1,Z ab rb.f1.f0,Z ab rb.f1.f1] 31)).alloc (.cells #[Z ab hd,Z ab layer] 33)).alloc (.cells #[Z ab 0,Z ab 0,Z ab 0,Z ab 0] 31)) = W1 at mT m6 m7 m9 m10 mB ⊢
 clear qQ
 generalize hg6:w.heap.size = g6 at m6 m7 m9 m10 ⊢
 have Qn:b≠g6:=by omega
 have agC:g6≠b:=Qn.symm
 have hG6:w.heap.size≤g6:=by omega
 generalize hg7:g6+1 = g7 at m7 m9 m10 ⊢
 have Qi:b≠g7:=by omega
 have agH:g6≠g7:=by omega
 have agw:g7≠b:=Qi.symm
 have aCJ:g7≠g6:=agH.symm
 have hG7:w.heap.size≤g7:=by omega
 generalize hg9:g7+1 = g9 at m9 m10 ⊢
 have Jw:b≠g9:=by omega
 have VQ:g6≠g9:=by omega
 have yA:g7≠g9:=by omega
 have ZQ:g9≠b:=Jw.symm
 have ao8:g9≠g6:=VQ.symm
 have MO:g9≠g7:=yA.symm
 have hG9:w.heap.size≤g9:=by omega
 generalize agD:g9+1 = g10 at m10 ⊢
 have SH:b≠g10:=by omega
 have pG:g6≠g10:=by omega
 have Og:g7≠g10:=by omega
 have Z7:g9≠g10:=by omega
 have aiP:g10≠b:=SH.symm
 have ZV:g10≠g6:=pG.symm
 have aiX:g10≠g7:=Og.symm
 have atT:g10≠g9:=Z7.symm
 have qU:w.heap.size≤g10:=by omega
 clear kZ yz
 try clear agD
 try clear hg9
 try clear hg7
 try clear hg6
 have sD:w.heap.size≤W1.heap.size:=mB.size
 replace mT:=ag mT
 replace m6:=ag m6
 replace m7:=ag m7
 replace m9:=ag m9
 replace m10:=ag m10
 replace mB:=bF mB
 refine jV (n:=6) (S:=fun w'=>w'.cell? ⟨g9,0,none⟩ = some (Z ab hd)∧w'.cell? ⟨g9,1,none⟩ = some (Z ab layer)) (ds:=[5]) #[al,al,al,al,al,al] aT rfl rfl ⟨((ae m9 0).trans rfl),((ae m9 1).trans rfl)⟩ (fun hHeld=>?_)
 generalize hWd:World.drew _ = Wx at mT m6 m7 m9 m10 mB hHeld ⊢
 clear hWd
 refine dR (i:=1) (N:=some 14) aT ?_
 refine iT (i:=2) (N:=some 15) aT hHeld ?_
 refine Ro (σ:=Nat) 1 #[ac,ac,ac,ac,ac,al] (fun s=>[(13,.agg #[Z ab 0,Z ab 1000,Z ab 707,Z ab 707,Z ab 1000,Z ab 0,Z ab 707,Z ab (-707),Z ab 0,Z ab (-1000),Z ab (-707),Z ab (-707),Z ab (-1000),Z ab 0,Z ab (-707),Z ab 707,Z ab 0,Z ab 0]),(16,.agg #[Z ab d0,Z ab d1]),(11,.pointer (some ⟨s,0,none⟩))]) (fun s w'=>dW w' b #[Z ab se.nx,Z ab se.ny,Z ab se.cell,Z ab se.slot,Z ab se.slots,Z ab se.layers,Z ab se.most,.slice A7 se.bf.length c7,.slice A8 se.aC.length c8,Z ab v.speed,Z ab v.bq,Z ab v.use.f0,Z ab v.use.f1,Z ab v.aV.f0,Z ab v.aV.f1,Z ab v.reserve] 110∧dW w' g6 #[Z ab x.f0.f0,Z ab x.f0.f1,Z ab x.f1.f0,Z ab x.f1.f1] 31∧dW w' g7 #[Z ab rb.f0.f0,Z ab rb.f0.f1,Z ab rb.f1.f0,Z ab rb.f1.f1] 31∧dW w' g9 #[Z ab hd,Z ab layer] 33∧dW w' g10 #[Z ab 0,Z ab 0,Z ab 0,Z ab 0] 31∧dW w' (s) #[Z ab 0,Z ab 0] 161∧Below w.heap.size w w'∧w.heap.size≤s∧b≠s∧g6≠s∧g7≠s∧g9≠s∧g10≠s) ?_ ?_
 rotate_left
 ·intro qW
  refine Xy (i:=0) (j:=4) (Ni:=some 13) (Nj:=some 11) #[ac,ac,ac,al,al,al] #[al,ac,ac,al,ac,al] rfl rfl rfl rfl aT (by decide) (by decide) (fun K hK=>?_) (fun K hK=>?_)
  ·skip
   have jL:=adQ (Wx)
   refine gY Try.func130 aT rfl #[] (by rfl) rfl rfl (by simp only [List.map_toArray,List.map_cons,List.map_nil]) ?_
   with_reducible refine (jL).mono ?_
   rintro e w0 ⟨rfl,hb⟩
   refine ⟨_,rfl,?_⟩
   clear jL
   replace mT:=ah mT hb
   replace m6:=ah m6 hb
   replace m7:=ah m7 hb
   replace m9:=ah m9 hb
   replace m10:=ah m10 hb
   replace mB:=bI mB hb
   clear hb
   refine hK.out _ _ ⟨((ae m9 0).trans rfl),((ae m9 1).trans rfl)⟩ (fun hHeld=>?_)
   clear hK K
   refine dQ agf ?_
   refine iT (i:=3) (N:=some 16) aT hHeld ?_
   refine iW (i:=4) (N:=some 11) #[ac,ac,ac,ac,ac,al] rfl rfl aT (by decide) (fun K hK=>?_)
   have BH:b≠w0.heap.size:=by have h_:=bO mT;omega
   have La:g6≠w0.heap.size:=by have h_:=bO m6;omega
   have rR:g7≠w0.heap.size:=by have h_:=bO m7;omega
   have rT:g9≠w0.heap.size:=by have h_:=bO m9;omega
   have FE:g10≠w0.heap.size:=by have h_:=bO m10;omega
   have VR:w.heap.size≤w0.heap.size:=by have h_:=mB.size;omega
   replace mT:=aa mT (.cells #[Z ab 0,Z ab 0] 161)
   replace m6:=aa m6 (.cells #[Z ab 0,Z ab 0] 161)
   replace m7:=aa m7 (.cells #[Z ab 0,Z ab 0] 161)
   replace m9:=aa m9 (.cells #[Z ab 0,Z ab 0] 161)
   replace m10:=aa m10 (.cells #[Z ab 0,Z ab 0] 161)
   have m11:dW (w0.alloc (.cells #[Z ab 0,Z ab 0] 161)) (w0.heap.size) #[Z ab 0,Z ab 0] 161:=by have h_:=eB w0 (.cells #[Z ab 0,Z ab 0] 161);first|exact h_|(simp only [World.size_alloc] at h_;exact h_)
   replace mB:=aH mB (.cells #[Z ab 0,Z ab 0] 161)
   refine GG (w1:=?_) (v:=?_) (by rfl) rfl ?_ ?_
   rotate_left 2
   ·go_simp
    constructor
    ·rfl
    ·rfl
   refine hK.out _ _ ⟨((ae m9 0).trans rfl),((ae m9 1).trans rfl)⟩ (fun hHeld=>?_)
   clear hK K
   refine dQ al9 ?_
   exact dQ asD (qW (w0.heap.size) _ ⟨mT,m6,m7,m9,m10,m11,mB,VR,BH,La,rR,rT,FE⟩)
  ·skip
   have BH:b≠Wx.heap.size:=by have h_:=bO mT;omega
   have La:g6≠Wx.heap.size:=by have h_:=bO m6;omega
   have rR:g7≠Wx.heap.size:=by have h_:=bO m7;omega
   have rT:g9≠Wx.heap.size:=by have h_:=bO m9;omega
   have FE:g10≠Wx.heap.size:=by have h_:=bO m10;omega
   have VR:w.heap.size≤Wx.heap.size:=by have h_:=mB.size;omega
   replace mT:=aa mT (.cells #[Z ab 0,Z ab 0] 161)
   replace m6:=aa m6 (.cells #[Z ab 0,Z ab 0] 161)
   replace m7:=aa m7 (.cells #[Z ab 0,Z ab 0] 161)
   replace m9:=aa m9 (.cells #[Z ab 0,Z ab 0] 161)
   replace m10:=aa m10 (.cells #[Z ab 0,Z ab 0] 161)
   have m11:dW (Wx.alloc (.cells #[Z ab 0,Z ab 0] 161)) (Wx.heap.size) #[Z ab 0,Z ab 0] 161:=by have h_:=eB Wx (.cells #[Z ab 0,Z ab 0] 161);first|exact h_|(simp only [World.size_alloc] at h_;exact h_)
   replace mB:=aH mB (.cells #[Z ab 0,Z ab 0] 161)
   refine GG (w1:=?_) (v:=?_) (by rfl) rfl ?_ ?_
   rotate_left 2
   ·go_simp
    constructor
    ·rfl
    ·rfl
   refine hK.out _ _ ⟨((ae m9 0).trans rfl),((ae m9 1).trans rfl)⟩ (fun hHeld=>?_)
   clear hK K
   refine dQ al9 ?_
   refine iW (i:=0) (N:=some 13) #[ac,ac,ac,al,ac,al] rfl rfl aT (by decide) (fun K hK=>?_)
   have jL:=adQ ((Wx.alloc (.cells #[Z ab 0,Z ab 0] 161)))
   refine gY Try.func130 aT rfl #[] (by rfl) rfl rfl (by simp only [List.map_toArray,List.map_cons,List.map_nil]) ?_
   with_reducible refine (jL).mono ?_
   rintro e w0 ⟨rfl,hb⟩
   refine ⟨_,rfl,?_⟩
   clear jL
   replace mT:=ah mT hb
   replace m6:=ah m6 hb
   replace m7:=ah m7 hb
   replace m9:=ah m9 hb
   replace m10:=ah m10 hb
   replace m11:=ah m11 hb
   replace mB:=bI mB hb
   clear hb
   refine hK.out _ _ ⟨((ae m9 0).trans rfl),((ae m9 1).trans rfl)⟩ (fun hHeld=>?_)
   clear hK K
   refine dQ agf ?_
   refine iT (i:=3) (N:=some 16) aT hHeld ?_
   exact dQ asD (qW (Wx.heap.size) _ ⟨mT,m6,m7,m9,m10,m11,mB,VR,BH,La,rR,rT,FE⟩)
 rintro g11 Wg ⟨mT,m6,m7,m9,m10,m11,mB,VR,BH,La,rR,rT,FE⟩
 have hHeld:(Wg.cell? ⟨g9,0,none⟩ = some (Z ab hd)∧Wg.cell? ⟨g9,1,none⟩ = some (Z ab layer)):=⟨((ae m9 0).trans rfl),((ae m9 1).trans rfl)⟩
 refine dQ (a':=?_) ?_ ?_
 rotate_left
 ·simp only [wy,Act.put,ap,aq,ar]
  rfl
 refine Mf (i:=5) (N:=none) #[ac,ac,ac,ac,ac,ac] rfl rfl aT (by decide) (fun K hK=>?_)
 have XD:=bg m11 0
 have RZ:=(ae m11 0).trans rfl
 have XE:=bg m11 1
 have XF:=(ae m11 1).trans rfl
 refine vF (w1:=?_) (by rfl) rfl ?_ ?_
 rotate_left
 ·go_simp
  rfl
 clear XD RZ XE XF
 replace mT:dW (Wg.setCell ⟨g11,0,none⟩ (Z ab d0)) b #[Z ab se.nx,Z ab se.ny,Z ab se.cell,Z ab se.slot,Z ab se.slots,Z ab se.layers,Z ab se.most,.slice A7 se.bf.length c7,.slice A8 se.aC.length c8,Z ab v.speed,Z ab v.bq,Z ab v.use.f0,Z ab v.use.f1,Z ab v.aV.f0,Z ab v.aV.f1,Z ab v.reserve] 110:=aM (p:=⟨g11,0,none⟩) mT BH _
 replace m6:dW (Wg.setCell ⟨g11,0,none⟩ (Z ab d0)) g6 #[Z ab x.f0.f0,Z ab x.f0.f1,Z ab x.f1.f0,Z ab x.f1.f1] 31:=aM (p:=⟨g11,0,none⟩) m6 La _
 replace m7:dW (Wg.setCell ⟨g11,0,none⟩ (Z ab d0)) g7 #[Z ab rb.f0.f0,Z ab rb.f0.f1,Z ab rb.f1.f0,Z ab rb.f1.f1] 31:=aM (p:=⟨g11,0,none⟩) m7 rR _
 replace m9:dW (Wg.setCell ⟨g11,0,none⟩ (Z ab d0)) g9 #[Z ab hd,Z ab layer] 33:=aM (p:=⟨g11,0,none⟩) m9 rT _
 replace m10:dW (Wg.setCell ⟨g11,0,none⟩ (Z ab d0)) g10 #[Z ab 0,Z ab 0,Z ab 0,Z ab 0] 31:=aM (p:=⟨g11,0,none⟩) m10 FE _
 replace m11:dW (Wg.setCell ⟨g11,0,none⟩ (Z ab d0)) g11 #[Z ab d0,Z ab 0] 161:=aK m11 0 _ rfl
 replace mB:Below w.heap.size w (Wg.setCell ⟨g11,0,none⟩ (Z ab d0)):=mB.setCell (p:=⟨g11,0,none⟩) VR _
 replace mT:dW ((Wg.setCell ⟨g11,0,none⟩ (Z ab d0)).setCell ⟨g11,1,none⟩ (Z ab d1)) b #[Z ab se.nx,Z ab se.ny,Z ab se.cell,Z ab se.slot,Z ab se.slots,Z ab se.layers,Z ab se.most,.slice A7 se.bf.length c7,.slice A8 se.aC.length c8,Z ab v.speed,Z ab v.bq,Z ab v.use.f0,Z ab v.use.f1,Z ab v.aV.f0,Z ab v.aV.f1,Z ab v.reserve] 110:=aM (p:=⟨g11,1,none⟩) mT BH _
 replace m6:dW ((Wg.setCell ⟨g11,0,none⟩ (Z ab d0)).setCell ⟨g11,1,none⟩ (Z ab d1)) g6 #[Z ab x.f0.f0,Z ab x.f0.f1,Z ab x.f1.f0,Z ab x.f1.f1] 31:=aM (p:=⟨g11,1,none⟩) m6 La _
 replace m7:dW ((Wg.setCell ⟨g11,0,none⟩ (Z ab d0)).setCell ⟨g11,1,none⟩ (Z ab d1)) g7 #[Z ab rb.f0.f0,Z ab rb.f0.f1,Z ab rb.f1.f0,Z ab rb.f1.f1] 31:=aM (p:=⟨g11,1,none⟩) m7 rR _
 replace m9:dW ((Wg.setCell ⟨g11,0,none⟩ (Z ab d0)).setCell ⟨g11,1,none⟩ (Z ab d1)) g9 #[Z ab hd,Z ab layer] 33:=aM (p:=⟨g11,1,none⟩) m9 rT _
 replace m10:dW ((Wg.setCell ⟨g11,0,none⟩ (Z ab d0)).setCell ⟨g11,1,none⟩ (Z ab d1)) g10 #[Z ab 0,Z ab 0,Z ab 0,Z ab 0] 31:=aM (p:=⟨g11,1,none⟩) m10 FE _
 replace m11:dW ((Wg.setCell ⟨g11,0,none⟩ (Z ab d0)).setCell ⟨g11,1,none⟩ (Z ab d1)) g11 #[Z ab d0,Z ab d1] 161:=aK m11 1 _ rfl
 replace mB:Below w.heap.size w ((Wg.setCell ⟨g11,0,none⟩ (Z ab d0)).setCell ⟨g11,1,none⟩ (Z ab d1)):=mB.setCell (p:=⟨g11,1,none⟩) VR _
 refine hK.out _ _ ?_
 clear hK K
 refine mi aT ?_
 try clear hHeld
 generalize qQ:((Wg.setCell ⟨g11,0,none⟩ (Z ab d0)).setCell ⟨g11,1,none⟩ (Z ab d1)) = W2 at mT m6 m7 m9 m10 m11 mB ⊢
 clear qQ
 have vI:w.heap.size≤W2.heap.size:=mB.size
 go_wp2_with fail
 replace mT:=ag mT
 replace m6:=ag m6
 replace m7:=ag m7
 replace m9:=ag m9
 replace m10:=ag m10
 replace m11:=ag m11
 replace mB:=bF mB
 refine jV (n:=15) (S:=fun w'=>w'.cell? ⟨g7,0,none⟩ = some (Z ab rb.f0.f0)∧w'.cell? ⟨g7,1,none⟩ = some (Z ab rb.f0.f1)∧w'.cell? ⟨g7,2,none⟩ = some (Z ab rb.f1.f0)∧w'.cell? ⟨g7,3,none⟩ = some (Z ab rb.f1.f1)∧w'.cell? ⟨g9,0,none⟩ = some (Z ab hd)∧w'.cell? ⟨g9,1,none⟩ = some (Z ab layer)∧w'.cell? ⟨b,10,none⟩ = some (Z ab v.bq)) (ds:=[14]) #[al,al,al,al,al,al,al,al,al,al,al,al,al,al,al] aT rfl rfl ⟨((ae m7 0).trans rfl),((ae m7 1).trans rfl),((ae m7 2).trans rfl),((ae m7 3).trans rfl),((ae m9 0).trans rfl),((ae m9 1).trans rfl),((ae mT 10).trans rfl)⟩ (fun hHeld=>?_)
 generalize hWd:World.drew _ = Wx at mT m6 m7 m9 m10 m11 mB hHeld ⊢
 clear hWd
 refine dR (i:=0) (N:=some 17) aT ?_
 refine dR (i:=2) (N:=some 19) aT ?_
 refine dR (i:=4) (N:=some 21) aT ?_
 refine dR (i:=5) (N:=some 22) aT ?_
 refine dR (i:=6) (N:=some 23) aT ?_
 refine dR (i:=7) (N:=some 24) aT ?_
 refine dR (i:=8) (N:=some 25) aT ?_
 refine dR (i:=9) (N:=some 26) aT ?_
 refine iT (i:=1) (N:=some 18) aT hHeld ?_
 refine iT (i:=3) (N:=some 20) aT hHeld ?_
 refine iT (i:=10) (N:=some 27) aT hHeld ?_
 refine dR (i:=11) (N:=some 28) aT ?_
 refine Ro (σ:=Nat) 1 #[ac,ac,ac,ac,ac,ac,ac,ac,ac,ac,ac,ac,ac,ac,al] (fun s=>[(29,.agg #[Z ab y.f0.f0,Z ab y.f0.f1,Z ab y.f1.f0,Z ab y.f1.f1]),(12,.pointer (some ⟨s,0,none⟩))]) (fun s w'=>dW w' b #[Z ab se.nx,Z ab se.ny,Z ab se.cell,Z ab se.slot,Z ab se.slots,Z ab se.layers,Z ab se.most,.slice A7 se.bf.length c7,.slice A8 se.aC.length c8,Z ab v.speed,Z ab v.bq,Z ab v.use.f0,Z ab v.use.f1,Z ab v.aV.f0,Z ab v.aV.f1,Z ab v.reserve] 110∧dW w' g6 #[Z ab x.f0.f0,Z ab x.f0.f1,Z ab x.f1.f0,Z ab x.f1.f1] 31∧dW w' g7 #[Z ab rb.f0.f0,Z ab rb.f0.f1,Z ab rb.f1.f0,Z ab rb.f1.f1] 31∧dW w' g9 #[Z ab hd,Z ab layer] 33∧dW w' g10 #[Z ab 0,Z ab 0,Z ab 0,Z ab 0] 31∧dW w' g11 #[Z ab d0,Z ab d1] 161∧dW w' (s) #[Z ab 0,Z ab 0,Z ab 0,Z ab 0] 31∧Below w.heap.size w w'∧w.heap.size≤s∧b≠s∧g6≠s∧g7≠s∧g9≠s∧g10≠s∧g11≠s) ?_ ?_
 rotate_left
 ·intro qW
  refine Xy (i:=12) (j:=13) (Ni:=some 29) (Nj:=some 12) #[ac,ac,ac,ac,ac,ac,ac,ac,ac,ac,ac,ac,ac,al,al] #[ac,ac,ac,ac,ac,ac,ac,ac,ac,ac,ac,ac,al,ac,al] rfl rfl rfl rfl aT (by decide) (by decide) (fun K hK=>?_) (fun K hK=>?_)
  ·skip
   have jL:=kA _ w1 (Wx) (hT.below mB)
   refine gY Try.func70 aT rfl #[.pointer (some ⟨b,0,none⟩),.agg #[Z ab rb.f0.f0,Z ab rb.f0.f1,Z ab rb.f1.f0,Z ab rb.f1.f1],Z ab layer,Z ab t,Z ab (an (t+v.bq))] (by rfl) rfl rfl Ju ?_
   with_reducible refine (jL).mono ?_
   rintro e Ja ⟨rfl,hb⟩
   refine ⟨_,rfl,?_⟩
   clear jL
   replace mT:=ah mT hb
   replace m6:=ah m6 hb
   replace m7:=ah m7 hb
   replace m9:=ah m9 hb
   replace m10:=ah m10 hb
   replace m11:=ah m11 hb
   replace mB:=bI mB hb
   clear hb
   refine hK.out _ _ ⟨((ae m7 0).trans rfl),((ae m7 1).trans rfl),((ae m7 2).trans rfl),((ae m7 3).trans rfl),((ae m9 0).trans rfl),((ae m9 1).trans rfl),((ae mT 10).trans rfl)⟩ (fun hHeld=>?_)
   clear hK K
   refine dQ aog ?_
   refine iW (i:=13) (N:=some 12) #[ac,ac,ac,ac,ac,ac,ac,ac,ac,ac,ac,ac,ac,ac,al] rfl rfl aT (by decide) (fun K hK=>?_)
   have rQ:b≠Ja.heap.size:=by have h_:=bO mT;omega
   have qf:g6≠Ja.heap.size:=by have h_:=bO m6;omega
   have rU:g7≠Ja.heap.size:=by have h_:=bO m7;omega
   have rV:g9≠Ja.heap.size:=by have h_:=bO m9;omega
   have nz:g10≠Ja.heap.size:=by have h_:=bO m10;omega
   have oD:g11≠Ja.heap.size:=by have h_:=bO m11;omega
   have JB:w.heap.size≤Ja.heap.size:=by have h_:=mB.size;omega
   replace mT:=aa mT (.cells #[Z ab 0,Z ab 0,Z ab 0,Z ab 0] 31)
   replace m6:=aa m6 (.cells #[Z ab 0,Z ab 0,Z ab 0,Z ab 0] 31)
   replace m7:=aa m7 (.cells #[Z ab 0,Z ab 0,Z ab 0,Z ab 0] 31)
   replace m9:=aa m9 (.cells #[Z ab 0,Z ab 0,Z ab 0,Z ab 0] 31)
   replace m10:=aa m10 (.cells #[Z ab 0,Z ab 0,Z ab 0,Z ab 0] 31)
   replace m11:=aa m11 (.cells #[Z ab 0,Z ab 0,Z ab 0,Z ab 0] 31)
   have m12:dW (Ja.alloc (.cells #[Z ab 0,Z ab 0,Z ab 0,Z ab 0] 31)) (Ja.heap.size) #[Z ab 0,Z ab 0,Z ab 0,Z ab 0] 31:=by have h_:=eB Ja (.cells #[Z ab 0,Z ab 0,Z ab 0,Z ab 0] 31);first|exact h_|(simp only [World.size_alloc] at h_;exact h_)
   replace mB:=aH mB (.cells #[Z ab 0,Z ab 0,Z ab 0,Z ab 0] 31)
   refine GG (w1:=?_) (v:=?_) (by rfl) rfl ?_ ?_
   rotate_left 2
   ·go_simp
    constructor
    ·rfl
    ·rfl
   refine hK.out _ _ ⟨((ae m7 0).trans rfl),((ae m7 1).trans rfl),((ae m7 2).trans rfl),((ae m7 3).trans rfl),((ae m9 0).trans rfl),((ae m9 1).trans rfl),((ae mT 10).trans rfl)⟩ (fun hHeld=>?_)
   clear hK K
   refine dQ aFf ?_
   exact dQ asD (qW (Ja.heap.size) _ ⟨mT,m6,m7,m9,m10,m11,m12,mB,JB,rQ,qf,rU,rV,nz,oD⟩)
  ·skip
   have rQ:b≠Wx.heap.size:=by have h_:=bO mT;omega
   have qf:g6≠Wx.heap.size:=by have h_:=bO m6;omega
   have rU:g7≠Wx.heap.size:=by have h_:=bO m7;omega
   have rV:g9≠Wx.heap.size:=by have h_:=bO m9;omega
   have nz:g10≠Wx.heap.size:=by have h_:=bO m10;omega
   have oD:g11≠Wx.heap.size:=by have h_:=bO m11;omega
   have JB:w.heap.size≤Wx.heap.size:=by have h_:=mB.size;omega
   replace mT:=aa mT (.cells #[Z ab 0,Z ab 0,Z ab 0,Z ab 0] 31)
   replace m6:=aa m6 (.cells #[Z ab 0,Z ab 0,Z ab 0,Z ab 0] 31)
   replace m7:=aa m7 (.cells #[Z ab 0,Z ab 0,Z ab 0,Z ab 0] 31)
   replace m9:=aa m9 (.cells #[Z ab 0,Z ab 0,Z ab 0,Z ab 0] 31)
   replace m10:=aa m10 (.cells #[Z ab 0,Z ab 0,Z ab 0,Z ab 0] 31)
   replace m11:=aa m11 (.cells #[Z ab 0,Z ab 0,Z ab 0,Z ab 0] 31)
   have m12:dW (Wx.alloc (.cells #[Z ab 0,Z ab 0,Z ab 0,Z ab 0] 31)) (Wx.heap.size) #[Z ab 0,Z ab 0,Z ab 0,Z ab 0] 31:=by have h_:=eB Wx (.cells #[Z ab 0,Z ab 0,Z ab 0,Z ab 0] 31);first|exact h_|(simp only [World.size_alloc] at h_;exact h_)
   replace mB:=aH mB (.cells #[Z ab 0,Z ab 0,Z ab 0,Z ab 0] 31)
   refine GG (w1:=?_) (v:=?_) (by rfl) rfl ?_ ?_
   rotate_left 2
   ·go_simp
    constructor
    ·rfl
    ·rfl
   refine hK.out _ _ ⟨((ae m7 0).trans rfl),((ae m7 1).trans rfl),((ae m7 2).trans rfl),((ae m7 3).trans rfl),((ae m9 0).trans rfl),((ae m9 1).trans rfl),((ae mT 10).trans rfl)⟩ (fun hHeld=>?_)
   clear hK K
   refine dQ aFf ?_
   refine iW (i:=12) (N:=some 29) #[ac,ac,ac,ac,ac,ac,ac,ac,ac,ac,ac,ac,ac,ac,al] rfl rfl aT (by decide) (fun K hK=>?_)
   have jL:=kA _ w1 ((Wx.alloc (.cells #[Z ab 0,Z ab 0,Z ab 0,Z ab 0] 31))) (hT.below mB)
   refine gY Try.func70 aT rfl #[.pointer (some ⟨b,0,none⟩),.agg #[Z ab rb.f0.f0,Z ab rb.f0.f1,Z ab rb.f1.f0,Z ab rb.f1.f1],Z ab layer,Z ab t,Z ab (an (t+v.bq))] (by rfl) rfl rfl Ju ?_
   with_reducible refine (jL).mono ?_
   rintro e Ja ⟨rfl,hb⟩
   refine ⟨_,rfl,?_⟩
   clear jL
   replace mT:=ah mT hb
   replace m6:=ah m6 hb
   replace m7:=ah m7 hb
   replace m9:=ah m9 hb
   replace m10:=ah m10 hb
   replace m11:=ah m11 hb
   replace m12:=ah m12 hb
   replace mB:=bI mB hb
   clear hb
   refine hK.out _ _ ⟨((ae m7 0).trans rfl),((ae m7 1).trans rfl),((ae m7 2).trans rfl),((ae m7 3).trans rfl),((ae m9 0).trans rfl),((ae m9 1).trans rfl),((ae mT 10).trans rfl)⟩ (fun hHeld=>?_)
   clear hK K
   refine dQ aog ?_
   exact dQ asD (qW (Wx.heap.size) _ ⟨mT,m6,m7,m9,m10,m11,m12,mB,JB,rQ,qf,rU,rV,nz,oD⟩)
 rintro g12 Wg ⟨mT,m6,m7,m9,m10,m11,m12,mB,JB,rQ,qf,rU,rV,nz,oD⟩
 have hHeld:(Wg.cell? ⟨g7,0,none⟩ = some (Z ab rb.f0.f0)∧Wg.cell? ⟨g7,1,none⟩ = some (Z ab rb.f0.f1)∧Wg.cell? ⟨g7,2,none⟩ = some (Z ab rb.f1.f0)∧Wg.cell? ⟨g7,3,none⟩ = some (Z ab rb.f1.f1)∧Wg.cell? ⟨g9,0,none⟩ = some (Z ab hd)∧Wg.cell? ⟨g9,1,none⟩ = some (Z ab layer)∧Wg.cell? ⟨b,10,none⟩ = some (Z ab v.bq)):=⟨((ae m7 0).trans rfl),((ae m7 1).trans rfl),((ae m7 2).trans rfl),((ae m7 3).trans rfl),((ae m9 0).trans rfl),((ae m9 1).trans rfl),((ae mT 10).trans rfl)⟩
 refine dQ (a':=?_) ?_ ?_
 rotate_left
 ·simp only [wy,Act.put,ap,aq,ar]
  rfl
 refine Mf (i:=14) (N:=none) #[ac,ac,ac,ac,ac,ac,ac,ac,ac,ac,ac,ac,ac,ac,ac] rfl rfl aT (by decide) (fun K hK=>?_)
 have XD:=bg m12 0
 have RZ:=(ae m12 0).trans rfl
 have XE:=bg m12 1
 have XF:=(ae m12 1).trans rfl
 have atK:=bg m12 2
 have atM:=(ae m12 2).trans rfl
 have atL:=bg m12 3
 have atN:=(ae m12 3).trans rfl
 refine vF (w1:=?_) (by rfl) rfl ?_ ?_
 rotate_left
 ·go_simp
  rfl
 clear XD RZ XE XF atK atM atL atN
 replace mT:dW (Wg.setCell ⟨g12,0,none⟩ (Z ab y.f0.f0)) b #[Z ab se.nx,Z ab se.ny,Z ab se.cell,Z ab se.slot,Z ab se.slots,Z ab se.layers,Z ab se.most,.slice A7 se.bf.length c7,.slice A8 se.aC.length c8,Z ab v.speed,Z ab v.bq,Z ab v.use.f0,Z ab v.use.f1,Z ab v.aV.f0,Z ab v.aV.f1,Z ab v.reserve] 110:=aM (p:=⟨g12,0,none⟩) mT rQ _
 replace m6:dW (Wg.setCell ⟨g12,0,none⟩ (Z ab y.f0.f0)) g6 #[Z ab x.f0.f0,Z ab x.f0.f1,Z ab x.f1.f0,Z ab x.f1.f1] 31:=aM (p:=⟨g12,0,none⟩) m6 qf _
 replace m7:dW (Wg.setCell ⟨g12,0,none⟩ (Z ab y.f0.f0)) g7 #[Z ab rb.f0.f0,Z ab rb.f0.f1,Z ab rb.f1.f0,Z ab rb.f1.f1] 31:=aM (p:=⟨g12,0,none⟩) m7 rU _
 replace m9:dW (Wg.setCell ⟨g12,0,none⟩ (Z ab y.f0.f0)) g9 #[Z ab hd,Z ab layer] 33:=aM (p:=⟨g12,0,none⟩) m9 rV _
 replace m10:dW (Wg.setCell ⟨g12,0,none⟩ (Z ab y.f0.f0)) g10 #[Z ab 0,Z ab 0,Z ab 0,Z ab 0] 31:=aM (p:=⟨g12,0,none⟩) m10 nz _
 replace m11:dW (Wg.setCell ⟨g12,0,none⟩ (Z ab y.f0.f0)) g11 #[Z ab d0,Z ab d1] 161:=aM (p:=⟨g12,0,none⟩) m11 oD _
 replace m12:dW (Wg.setCell ⟨g12,0,none⟩ (Z ab y.f0.f0)) g12 #[Z ab y.f0.f0,Z ab 0,Z ab 0,Z ab 0] 31:=aK m12 0 _ rfl
 replace mB:Below w.heap.size w (Wg.setCell ⟨g12,0,none⟩ (Z ab y.f0.f0)):=mB.setCell (p:=⟨g12,0,none⟩) JB _
 replace mT:dW ((Wg.setCell ⟨g12,0,none⟩ (Z ab y.f0.f0)).setCell ⟨g12,1,none⟩ (Z ab y.f0.f1)) b #[Z ab se.nx,Z ab se.ny,Z ab se.cell,Z ab se.slot,Z ab se.slots,Z ab se.layers,Z ab se.most,.slice A7 se.bf.length c7,.slice A8 se.aC.length c8,Z ab v.speed,Z ab v.bq,Z ab v.use.f0,Z ab v.use.f1,Z ab v.aV.f0,Z ab v.aV.f1,Z ab v.reserve] 110:=aM (p:=⟨g12,1,none⟩) mT rQ _
 replace m6:dW ((Wg.setCell ⟨g12,0,none⟩ (Z ab y.f0.f0)).setCell ⟨g12,1,none⟩ (Z ab y.f0.f1)) g6 #[Z ab x.f0.f0,Z ab x.f0.f1,Z ab x.f1.f0,Z ab x.f1.f1] 31:=aM (p:=⟨g12,1,none⟩) m6 qf _
 replace m7:dW ((Wg.setCell ⟨g12,0,none⟩ (Z ab y.f0.f0)).setCell ⟨g12,1,none⟩ (Z ab y.f0.f1)) g7 #[Z ab rb.f0.f0,Z ab rb.f0.f1,Z ab rb.f1.f0,Z ab rb.f1.f1] 31:=aM (p:=⟨g12,1,none⟩) m7 rU _
 replace m9:dW ((Wg.setCell ⟨g12,0,none⟩ (Z ab y.f0.f0)).setCell ⟨g12,1,none⟩ (Z ab y.f0.f1)) g9 #[Z ab hd,Z ab layer] 33:=aM (p:=⟨g12,1,none⟩) m9 rV _
 replace m10:dW ((Wg.setCell ⟨g12,0,none⟩ (Z ab y.f0.f0)).setCell ⟨g12,1,none⟩ (Z ab y.f0.f1)) g10 #[Z ab 0,Z ab 0,Z ab 0,Z ab 0] 31:=aM (p:=⟨g12,1,none⟩) m10 nz _
 replace m11:dW ((Wg.setCell ⟨g12,0,none⟩ (Z ab y.f0.f0)).setCell ⟨g12,1,none⟩ (Z ab y.f0.f1)) g11 #[Z ab d0,Z ab d1] 161:=aM (p:=⟨g12,1,none⟩) m11 oD _
 replace m12:dW ((Wg.setCell ⟨g12,0,none⟩ (Z ab y.f0.f0)).setCell ⟨g12,1,none⟩ (Z ab y.f0.f1)) g12 #[Z ab y.f0.f0,Z ab y.f0.f1,Z ab 0,Z ab 0] 31:=aK m12 1 _ rfl
 replace mB:Below w.heap.size w ((Wg.setCell ⟨g12,0,none⟩ (Z ab y.f0.f0)).setCell ⟨g12,1,none⟩ (Z ab y.f0.f1)):=mB.setCell (p:=⟨g12,1,none⟩) JB _
 replace mT:dW (((Wg.setCell ⟨g12,0,none⟩ (Z ab y.f0.f0)).setCell ⟨g12,1,none⟩ (Z ab y.f0.f1)).setCell ⟨g12,2,none⟩ (Z ab y.f1.f0)) b #[Z ab se.nx,Z ab se.ny,Z ab se.cell,Z ab se.slot,Z ab se.slots,Z ab se.layers,Z ab se.most,.slice A7 se.bf.length c7,.slice A8 se.aC.length c8,Z ab v.speed,Z ab v.bq,Z ab v.use.f0,Z ab v.use.f1,Z ab v.aV.f0,Z ab v.aV.f1,Z ab v.reserve] 110:=aM (p:=⟨g12,2,none⟩) mT rQ _
 replace m6:dW (((Wg.setCell ⟨g12,0,none⟩ (Z ab y.f0.f0)).setCell ⟨g12,1,none⟩ (Z ab y.f0.f1)).setCell ⟨g12,2,none⟩ (Z ab y.f1.f0)) g6 #[Z ab x.f0.f0,Z ab x.f0.f1,Z ab x.f1.f0,Z ab x.f1.f1] 31:=aM (p:=⟨g12,2,none⟩) m6 qf _
 replace m7:dW (((Wg.setCell ⟨g12,0,none⟩ (Z ab y.f0.f0)).setCell ⟨g12,1,none⟩ (Z ab y.f0.f1)).setCell ⟨g12,2,none⟩ (Z ab y.f1.f0)) g7 #[Z ab rb.f0.f0,Z ab rb.f0.f1,Z ab rb.f1.f0,Z ab rb.f1.f1] 31:=aM (p:=⟨g12,2,none⟩) m7 rU _
 replace m9:dW (((Wg.setCell ⟨g12,0,none⟩ (Z ab y.f0.f0)).setCell ⟨g12,1,none⟩ (Z ab y.f0.f1)).setCell ⟨g12,2,none⟩ (Z ab y.f1.f0)) g9 #[Z ab hd,Z ab layer] 33:=aM (p:=⟨g12,2,none⟩) m9 rV _
 replace m10:dW (((Wg.setCell ⟨g12,0,none⟩ (Z ab y.f0.f0)).setCell ⟨g12,1,none⟩ (Z ab y.f0.f1)).setCell ⟨g12,2,none⟩ (Z ab y.f1.f0)) g10 #[Z ab 0,Z ab 0,Z ab 0,Z ab 0] 31:=aM (p:=⟨g12,2,none⟩) m10 nz _
 replace m11:dW (((Wg.setCell ⟨g12,0,none⟩ (Z ab y.f0.f0)).setCell ⟨g12,1,none⟩ (Z ab y.f0.f1)).setCell ⟨g12,2,none⟩ (Z ab y.f1.f0)) g11 #[Z ab d0,Z ab d1] 161:=aM (p:=⟨g12,2,none⟩) m11 oD _
 replace m12:dW (((Wg.setCell ⟨g12,0,none⟩ (Z ab y.f0.f0)).setCell ⟨g12,1,none⟩ (Z ab y.f0.f1)).setCell ⟨g12,2,none⟩ (Z ab y.f1.f0)) g12 #[Z ab y.f0.f0,Z ab y.f0.f1,Z ab y.f1.f0,Z ab 0] 31:=aK m12 2 _ rfl
 replace mB:Below w.heap.size w (((Wg.setCell ⟨g12,0,none⟩ (Z ab y.f0.f0)).setCell ⟨g12,1,none⟩ (Z ab y.f0.f1)).setCell ⟨g12,2,none⟩ (Z ab y.f1.f0)):=mB.setCell (p:=⟨g12,2,none⟩) JB _
 replace mT:dW ((((Wg.setCell ⟨g12,0,none⟩ (Z ab y.f0.f0)).setCell ⟨g12,1,none⟩ (Z ab y.f0.f1)).setCell ⟨g12,2,none⟩ (Z ab y.f1.f0)).setCell ⟨g12,3,none⟩ (Z ab y.f1.f1)) b #[Z ab se.nx,Z ab se.ny,Z ab se.cell,Z ab se.slot,Z ab se.slots,Z ab se.layers,Z ab se.most,.slice A7 se.bf.length c7,.slice A8 se.aC.length c8,Z ab v.speed,Z ab v.bq,Z ab v.use.f0,Z ab v.use.f1,Z ab v.aV.f0,Z ab v.aV.f1,Z ab v.reserve] 110:=aM (p:=⟨g12,3,none⟩) mT rQ _
 replace m6:dW ((((Wg.setCell ⟨g12,0,none⟩ (Z ab y.f0.f0)).setCell ⟨g12,1,none⟩ (Z ab y.f0.f1)).setCell ⟨g12,2,none⟩ (Z ab y.f1.f0)).setCell ⟨g12,3,none⟩ (Z ab y.f1.f1)) g6 #[Z ab x.f0.f0,Z ab x.f0.f1,Z ab x.f1.f0,Z ab x.f1.f1] 31:=aM (p:=⟨g12,3,none⟩) m6 qf _
 replace m7:dW ((((Wg.setCell ⟨g12,0,none⟩ (Z ab y.f0.f0)).setCell ⟨g12,1,none⟩ (Z ab y.f0.f1)).setCell ⟨g12,2,none⟩ (Z ab y.f1.f0)).setCell ⟨g12,3,none⟩ (Z ab y.f1.f1)) g7 #[Z ab rb.f0.f0,Z ab rb.f0.f1,Z ab rb.f1.f0,Z ab rb.f1.f1] 31:=aM (p:=⟨g12,3,none⟩) m7 rU _
 replace m9:dW ((((Wg.setCell ⟨g12,0,none⟩ (Z ab y.f0.f0)).setCell ⟨g12,1,none⟩ (Z ab y.f0.f1)).setCell ⟨g12,2,none⟩ (Z ab y.f1.f0)).setCell ⟨g12,3,none⟩ (Z ab y.f1.f1)) g9 #[Z ab hd,Z ab layer] 33:=aM (p:=⟨g12,3,none⟩) m9 rV _
 replace m10:dW ((((Wg.setCell ⟨g12,0,none⟩ (Z ab y.f0.f0)).setCell ⟨g12,1,none⟩ (Z ab y.f0.f1)).setCell ⟨g12,2,none⟩ (Z ab y.f1.f0)).setCell ⟨g12,3,none⟩ (Z ab y.f1.f1)) g10 #[Z ab 0,Z ab 0,Z ab 0,Z ab 0] 31:=aM (p:=⟨g12,3,none⟩) m10 nz _
 replace m11:dW ((((Wg.setCell ⟨g12,0,none⟩ (Z ab y.f0.f0)).setCell ⟨g12,1,none⟩ (Z ab y.f0.f1)).setCell ⟨g12,2,none⟩ (Z ab y.f1.f0)).setCell ⟨g12,3,none⟩ (Z ab y.f1.f1)) g11 #[Z ab d0,Z ab d1] 161:=aM (p:=⟨g12,3,none⟩) m11 oD _
 replace m12:dW ((((Wg.setCell ⟨g12,0,none⟩ (Z ab y.f0.f0)).setCell ⟨g12,1,none⟩ (Z ab y.f0.f1)).setCell ⟨g12,2,none⟩ (Z ab y.f1.f0)).setCell ⟨g12,3,none⟩ (Z ab y.f1.f1)) g12 #[Z ab y.f0.f0,Z ab y.f0.f1,Z ab y.f1.f0,Z ab y.f1.f1] 31:=aK m12 3 _ rfl
 replace mB:Below w.heap.size w ((((Wg.setCell ⟨g12,0,none⟩ (Z ab y.f0.f0)).setCell ⟨g12,1,none⟩ (Z ab y.f0.f1)).setCell ⟨g12,2,none⟩ (Z ab y.f1.f0)).setCell ⟨g12,3,none⟩ (Z ab y.f1.f1)):=mB.setCell (p:=⟨g12,3,none⟩) JB _
 refine hK.out _ _ ?_
 clear hK K
 refine mi aT ?_
 try clear hHeld
 generalize qQ:((((Wg.setCell ⟨g12,0,none⟩ (Z ab y.f0.f0)).setCell ⟨g12,1,none⟩ (Z ab y.f0.f1)).setCell ⟨g12,2,none⟩ (Z ab y.f1.f0)).setCell ⟨g12,3,none⟩ (Z ab y.f1.f1)) = W3 at mT m6 m7 m9 m10 m11 m12 mB ⊢
 clear qQ
 have FB:w.heap.size≤W3.heap.size:=mB.size
 go_wp2_with fail
 replace mT:=ag mT
 replace m6:=ag m6
 replace m7:=ag m7
 replace m9:=ag m9
 replace m10:=ag m10
 replace m11:=ag m11
 replace m12:=ag m12
 replace mB:=bF mB
 refine jV (n:=30) (S:=fun w'=>w'.cell? ⟨g6,0,none⟩ = some (Z ab x.f0.f0)∧w'.cell? ⟨g6,1,none⟩ = some (Z ab x.f0.f1)∧w'.cell? ⟨g6,2,none⟩ = some (Z ab x.f1.f0)∧w'.cell? ⟨g6,3,none⟩ = some (Z ab x.f1.f1)∧w'.cell? ⟨g11,0,none⟩ = some (Z ab d0)∧w'.cell? ⟨g11,1,none⟩ = some (Z ab d1)∧w'.cell? ⟨g12,0,none⟩ = some (Z ab y.f0.f0)∧w'.cell? ⟨g12,1,none⟩ = some (Z ab y.f0.f1)∧w'.cell? ⟨g12,2,none⟩ = some (Z ab y.f1.f0)∧w'.cell? ⟨g12,3,none⟩ = some (Z ab y.f1.f1)∧w'.cell? ⟨b,9,none⟩ = some (Z ab v.speed)) (ds:=[29]) #[al,al,al,al,al,al,al,al,al,al,al,al,al,al,al,al,al,al,al,al,al,al,al,al,al,al,al,al,al,al] aT rfl rfl ⟨((ae m6 0).trans rfl),((ae m6 1).trans rfl),((ae m6 2).trans rfl),((ae m6 3).trans rfl),((ae m11 0).trans rfl),((ae m11 1).trans rfl),((ae m12 0).trans rfl),((ae m12 1).trans rfl),((ae m12 2).trans rfl),((ae m12 3).trans rfl),((ae mT 9).trans rfl)⟩ (fun hHeld=>?_)
 generalize hWd:World.drew _ = Wx at mT m6 m7 m9 m10 m11 m12 mB hHeld ⊢
 clear hWd
 refine dR (i:=0) (N:=some 30) aT ?_
 refine dR (i:=1) (N:=some 31) aT ?_
 refine dR (i:=3) (N:=some 33) aT ?_
 refine dR (i:=5) (N:=some 35) aT ?_
 refine dR (i:=6) (N:=some 36) aT ?_
 refine dR (i:=7) (N:=some 37) aT ?_
 refine dR (i:=8) (N:=some 38) aT ?_
 refine dR (i:=11) (N:=some 41) aT ?_
 refine dR (i:=14) (N:=some 44) aT ?_
 refine dR (i:=15) (N:=some 45) aT ?_
 refine dR (i:=17) (N:=some 47) aT ?_
 refine dR (i:=19) (N:=some 49) aT ?_
 refine dR (i:=20) (N:=some 50) aT ?_
 refine dR (i:=21) (N:=some 51) aT ?_
 refine dR (i:=22) (N:=some 52) aT ?_
 refine dR (i:=25) (N:=some 55) aT ?_
 refine iT (i:=2) (N:=some 32) aT hHeld ?_
 refine iT (i:=4) (N:=some 34) aT hHeld ?_
 refine iT (i:=9) (N:=some 39) aT hHeld ?_
 refine dR (i:=10) (N:=some 40) aT ?_
 refine iT (i:=12) (N:=some 42) aT hHeld ?_
 refine iT (i:=16) (N:=some 46) aT hHeld ?_
 refine iT (i:=18) (N:=some 48) aT hHeld ?_
 refine iT (i:=23) (N:=some 53) aT hHeld ?_
 refine dR (i:=24) (N:=some 54) aT ?_
 refine iT (i:=26) (N:=some 56) aT hHeld ?_
 refine iW (i:=13) (N:=some 43) #[ac,ac,ac,ac,ac,ac,ac,ac,ac,ac,ac,ac,ac,ac,ac,ac,ac,ac,ac,ac,ac,ac,ac,ac,ac,ac,ac,al,al,al] rfl rfl aT (by decide) (fun K hK=>?_)
 have jL:=kS0 _ w2 Wx (hT.below mB)
 refine gY Try.func131 aT rfl #[.pointer (some ⟨b,0,none⟩),.agg #[Z ab x.f0.f0,Z ab x.f0.f1],Z ab (an (d0*v.speed)),.agg #[Z ab y.f0.f0,Z ab y.f0.f1]] (by rfl) rfl rfl Ju ?_
 with_reducible refine (jL).mono ?_
 rintro e GK ⟨rfl,hb⟩
 refine ⟨_,rfl,?_⟩
 clear jL
 replace mT:=ah mT hb
 replace m6:=ah m6 hb
 replace m7:=ah m7 hb
 replace m9:=ah m9 hb
 replace m10:=ah m10 hb
 replace m11:=ah m11 hb
 replace m12:=ah m12 hb
 replace mB:=bI mB hb
 clear hb
 refine hK.out _ _ ⟨((ae m6 0).trans rfl),((ae m6 1).trans rfl),((ae m6 2).trans rfl),((ae m6 3).trans rfl),((ae m11 0).trans rfl),((ae m11 1).trans rfl),((ae m12 0).trans rfl),((ae m12 1).trans rfl),((ae m12 2).trans rfl),((ae m12 3).trans rfl),((ae mT 9).trans rfl)⟩ (fun hHeld=>?_)
 clear hK K
 refine dQ aFg ?_
 refine iW (i:=27) (N:=some 57) #[ac,ac,ac,ac,ac,ac,ac,ac,ac,ac,ac,ac,ac,ac,ac,ac,ac,ac,ac,ac,ac,ac,ac,ac,ac,ac,ac,ac,al,al] rfl rfl aT (by decide) (fun K hK=>?_)
 have jL:=kS1 _ w3 GK (hT.below mB)
 refine gY Try.func131 aT rfl #[.pointer (some ⟨b,0,none⟩),.agg #[Z ab x.f1.f0,Z ab x.f1.f1],Z ab (an (d1*v.speed)),.agg #[Z ab y.f1.f0,Z ab y.f1.f1]] (by rfl) rfl rfl Ju ?_
 with_reducible refine (jL).mono ?_
 rintro e w27 ⟨rfl,hb⟩
 refine ⟨_,rfl,?_⟩
 clear jL
 replace mT:=ah mT hb
 replace m6:=ah m6 hb
 replace m7:=ah m7 hb
 replace m9:=ah m9 hb
 replace m10:=ah m10 hb
 replace m11:=ah m11 hb
 replace m12:=ah m12 hb
 replace mB:=bI mB hb
 clear hb
 refine hK.out _ _ ⟨((ae m6 0).trans rfl),((ae m6 1).trans rfl),((ae m6 2).trans rfl),((ae m6 3).trans rfl),((ae m11 0).trans rfl),((ae m11 1).trans rfl),((ae m12 0).trans rfl),((ae m12 1).trans rfl),((ae m12 2).trans rfl),((ae m12 3).trans rfl),((ae mT 9).trans rfl)⟩ (fun hHeld=>?_)
 clear hK K
 refine dQ (by show Act.put _ (some 57) _ = _;simp only [Act.put,ap,aq,ar,eY,fo];rfl) ?_
 refine dR (i:=28) (N:=some 58) aT ?_
 refine Mf (i:=29) (N:=none) #[ac,ac,ac,ac,ac,ac,ac,ac,ac,ac,ac,ac,ac,ac,ac,ac,ac,ac,ac,ac,ac,ac,ac,ac,ac,ac,ac,ac,ac,ac] rfl rfl aT (by decide) (fun K hK=>?_)
 have XD:=bg m10 0
 have XE:=bg m10 1
 have atK:=bg m10 2
 have atL:=bg m10 3
 have RZ:=(ae m10 0).trans rfl
 have XF:=(ae m10 1).trans rfl
 have atM:=(ae m10 2).trans rfl
 have atN:=(ae m10 3).trans rfl
 refine vF (w1:=?_) (by rfl) rfl ?_ ?_
 rotate_left
 ·go_simp
  rfl
 refine hK.out _ _ ?_
 clear hK K
 refine mi aT ?_
 go_wp2
 exact bodyPost_ret (results_cell_row rfl _ _ g10 31 #[Z ab (qR v.bq x.f0 (d0*v.speed) y.f0).f0,Z ab (qR v.bq x.f0 (d0*v.speed) y.f0).f1,Z ab (qR v.bq x.f1 (d1*v.speed) y.f1).f0,Z ab (qR v.bq x.f1 (d1*v.speed) y.f1).f1] (0,0) _ rfl (aK (aK (aK (aK m10 0 (Z ab (qR v.bq x.f0 (d0*v.speed) y.f0).f0) rfl) 1 (Z ab (qR v.bq x.f0 (d0*v.speed) y.f0).f1) rfl) 2 (Z ab (qR v.bq x.f1 (d1*v.speed) y.f1).f0) rfl) 3 (Z ab (qR v.bq x.f1 (d1*v.speed) y.f1).f1) rfl) Try.underlying31 rfl aT) rfl ⟨by rw [HR.out],(Below.setCell (p:=⟨g10,3,none⟩) (Below.setCell (p:=⟨g10,2,none⟩) (Below.setCell (p:=⟨g10,1,none⟩) (Below.setCell (p:=⟨g10,0,none⟩) mB qU _) qU _) qU _) qU _)⟩
structure VS (s:lK):Prop where
 n:Cm s
 sh:(s.bf.length:Int) = s.nx*s.ny
 cu:(s.aC.length:Int) = s.slots*s.layers*(s.nx*s.ny)
 cb:aCF s
def vK (x:iA):Prop:=JC x∧x.f0.f0≤x.f0.f1∧x.f1.f0≤x.f1.f1
theorem VT {s:lK} {v:nW} {x:iA} {t:Int} (hS:Cm s) (hV:Fz v) (hx:vK x) (h:pW s v x t = 0):Yk s (fO s v x)∧(0≤t∧t+v.bq≤s.slots*s.slot)∧(0≤x.f0.f0∧x.f0.f1≤1000000)∧(0≤x.f1.f0∧x.f1.f1≤1000000):=by
 have hm:=hS.most
 have hsp:=hV.speed
 have hdv:=hV.bq
 have p1:=je (show 0≤v.speed+s.most by omega) (show v.speed+s.most≤10000 by omega) (show 0≤v.bq by omega) hdv.2
 have p2:=je (show 0≤s.nx by have:=hS.nx;omega) hS.nx.2 (show 0≤s.cell by have:=hS.cell;omega) hS.cell.2
 have p3:=je (show 0≤s.ny by have:=hS.ny;omega) hS.ny.2 (show 0≤s.cell by have:=hS.cell;omega) hS.cell.2
 obtain ⟨⟨x0,x1,x2,x3⟩,x4,x5⟩:=hx
 unfold pW at h
 have hc:iX s (fO s v x) = true∧uy s t (t+v.bq) = true:=by
  by_cases hb:(iX s (fO s v x) && uy s t (t+v.bq)) = true
  ·exact Bool.and_eq_true_iff.1 hb
  ·rw [if_neg hb] at h
   cases h
 obtain ⟨h1,h2⟩:=hc
 unfold iX fO at h1
 unfold uy at h2
 simp only [Bool.and_eq_true,decide_eq_true_eq] at h1 h2
 unfold Yk fO
 dsimp only
 omega
def nY (s:lK) (v:nW) (x:iA) (t:Int):Int:=if pW s v x t≠0 then pW s v x t else Ex s (fO s v x)
def mW (s:lK) (v:nW) (x:iA) (t hd layer:Int):iA:=if nY s v x t = 0 then EA s v x (fO s v x) t hd layer else z31
theorem adR (s:lK) (x:iA):Ex s x = 0∨Ex s x = 21:=by
 unfold Ex
 split
 ·exact .inr rfl
 ·exact .inl rfl
theorem VU {s:lK} {v:nW} {x:iA} {t hd layer:Int} (hS:VS s) (hV:Fz v) (hx:vK x) (h:nY s v x t = 0):vK (mW s v x t hd layer):=by
 have hr:pW s v x t = 0:=by
  unfold nY at h
  by_cases hz:pW s v x t = 0
  ·exact hz
  ·rw [if_pos hz] at h
   exact absurd h hz
 obtain ⟨_,_,⟨a0,a1⟩,b0,b1⟩:=VT hS.n hV hx hr
 obtain ⟨_,o1,o2⟩:=hx
 have hdv:=hV.bq
 have hsp:=hV.speed
 have hdi:=Z6 hd
 have hai:=ao5 hS.cb (fO s v x) layer t (t+v.bq)
 unfold mW
 rw [if_pos h]
 unfold EA qR vK JC Mi upM
 dsimp only
 generalize XG s (fO s v x) layer t (t+v.bq) = y at*
 generalize LY hd = d at*
 obtain ⟨⟨y0,y1⟩,⟨y2,y3⟩,⟨y4,y5⟩,⟨y6,y7⟩,y8,y9⟩:=hai
 have m0:=rP (a:=d.1) (b:=v.speed) (m:=1000) (n:=5000) hdi.1.1 hdi.1.2 hsp.1 hsp.2 (by omega)
 have m1:=rP (a:=d.2) (b:=v.speed) (m:=1000) (n:=5000) hdi.2.1 hdi.2.2 hsp.1 hsp.2 (by omega)
 generalize d.1*v.speed = e at*
 generalize d.2*v.speed = f at*
 have n0:=rP (a:=e+1000*y.f0.f0) (b:=v.bq) (m:=10000000) (n:=131072) (by omega) (by omega) (by omega) (by omega) (by omega)
 have n1:=rP (a:=e+1000*y.f0.f1) (b:=v.bq) (m:=10000000) (n:=131072) (by omega) (by omega) (by omega) (by omega) (by omega)
 have n2:=rP (a:=f+1000*y.f1.f0) (b:=v.bq) (m:=10000000) (n:=131072) (by omega) (by omega) (by omega) (by omega) (by omega)
 have n3:=rP (a:=f+1000*y.f1.f1) (b:=v.bq) (m:=10000000) (n:=131072) (by omega) (by omega) (by omega) (by omega) (by omega)
 have k0:=Int.mul_le_mul_of_nonneg_right (show e+1000*y.f0.f0≤e+1000*y.f0.f1 by omega) (show 0≤v.bq by omega)
 have k1:=Int.mul_le_mul_of_nonneg_right (show f+1000*y.f1.f0≤f+1000*y.f1.f1 by omega) (show 0≤v.bq by omega)
 generalize (e+1000*y.f0.f0)*v.bq = A at*
 generalize (e+1000*y.f0.f1)*v.bq = B at*
 generalize (f+1000*y.f1.f0)*v.bq = C at*
 generalize (f+1000*y.f1.f1)*v.bq = E at*
 clear m0 m1 hdi hdv hsp h hr
 omega
theorem VV (b:Nat) (s:lK) (v:nW) (x:iA) (t hd layer:Int) (w:ao) (hT:lC w b s v) (hS:VS s) (hV:Fz v) (hx:vK x) (ht0:0≤t) (ht1:t≤1099511627776) (hh0:0≤hd) (hh1:hd≤8) (hl0:0≤layer) (hl1:layer < s.layers):
 Calls Try.prog 66 #[.pointer (some ⟨b,0,none⟩),.agg #[Z ab x.f0.f0,Z ab x.f0.f1,Z ab x.f1.f0,Z ab x.f1.f1],Z ab t,.agg #[Z ab hd,Z ab layer]] w (yw (.tuple #[.agg #[Z ab (mW s v x t hd layer).f0.f0,Z ab (mW s v x t hd layer).f0.f1,Z ab (mW s v x t hd layer).f1.f0,Z ab (mW s v x t hd layer).f1.f1],Z ab (nY s v x t)]) w):=by
 have qj:=Try.underlying31
 have oO:=Try.underlying27
 have E9:=Try.underlying33
 have kR:=fun W (h:lC W b s v)=>ams b s v x t W h hS.n hV hx.1 ht0 ht1
 have hok:=VT (t:=t) hS.n hV hx
 have HE:Hid (nY s v x t = if pW s v x t≠0 then pW s v x t else Ex s (fO s v x)):=Lib.hid rfl
 have HV:Hid (mW s v x t hd layer = if nY s v x t = 0 then EA s v x (fO s v x) t hd layer else z31):=Lib.hid rfl
 have HRV:Hid (Hq s v x t = if pW s v x t = 0 then fO s v x else z31):=Lib.hid rfl
 go_enter Try.func66,Try.ntmps66
 go_wp2_with fail
 have m5:dW (((w.alloc (.cells #[Z ab x.f0.f0,Z ab x.f0.f1,Z ab x.f1.f0,Z ab x.f1.f1] 31)).alloc (.cells #[Z ab hd,Z ab layer] 33)).alloc (.cells #[Z ab 0,Z ab 0,Z ab 0,Z ab 0] 31)) (w.heap.size) #[Z ab x.f0.f0,Z ab x.f0.f1,Z ab x.f1.f0,Z ab x.f1.f1] 31:=(aa (aa aoe _) _)
 have m7:dW (((w.alloc (.cells #[Z ab x.f0.f0,Z ab x.f0.f1,Z ab x.f1.f0,Z ab x.f1.f1] 31)).alloc (.cells #[Z ab hd,Z ab layer] 33)).alloc (.cells #[Z ab 0,Z ab 0,Z ab 0,Z ab 0] 31)) (w.heap.size+1) #[Z ab hd,Z ab layer] 33:=(aa (by have h_:=eB (w.alloc (.cells #[Z ab x.f0.f0,Z ab x.f0.f1,Z ab x.f1.f0,Z ab x.f1.f1] 31)) (.cells #[Z ab hd,Z ab layer] 33);first|exact h_|(simp only [World.size_alloc] at h_;exact h_)) _)
 have m8:dW (((w.alloc (.cells #[Z ab x.f0.f0,Z ab x.f0.f1,Z ab x.f1.f0,Z ab x.f1.f1] 31)).alloc (.cells #[Z ab hd,Z ab layer] 33)).alloc (.cells #[Z ab 0,Z ab 0,Z ab 0,Z ab 0] 31)) (w.heap.size+1+1) #[Z ab 0,Z ab 0,Z ab 0,Z ab 0] 31:=(by have h_:=eB ((w.alloc (.cells #[Z ab x.f0.f0,Z ab x.f0.f1,Z ab x.f1.f0,Z ab x.f1.f1] 31)).alloc (.cells #[Z ab hd,Z ab layer] 33)) (.cells #[Z ab 0,Z ab 0,Z ab 0,Z ab 0] 31);first|exact h_|(simp only [World.size_alloc] at h_;exact h_))
 have mB:Below w.heap.size w (((w.alloc (.cells #[Z ab x.f0.f0,Z ab x.f0.f1,Z ab x.f1.f0,Z ab x.f1.f1] 31)).alloc (.cells #[Z ab hd,Z ab layer] 33)).alloc (.cells #[Z ab 0,Z ab 0,Z ab 0,Z ab 0] 31)):=(aH (aH (aH (Below.refl w.heap.size w) _) _) _)
 have kZ:w.heap.size≤w.heap.size:=Nat.le_refl _
 generalize qQ:(((w.alloc (.cells #[Z ab x.f0.f0,Z ab x.f0.f1,Z ab x.f1.f0,Z ab x.f1.f1] 31)).alloc (.cells #[Z ab hd,Z ab layer] 33)).alloc (.cells #[Z ab 0,Z ab 0,Z ab 0,Z ab 0] 31)) = W1 at m5 m7 m8 mB ⊢
 clear qQ
 generalize hg5:w.heap.size = g5 at m5 m7 m8 ⊢
 have hG5:w.heap.size≤g5:=by omega
 generalize hg7:g5+1 = g7 at m7 m8 ⊢
 have VB:g5≠g7:=by omega
 have aoO:g7≠g5:=VB.symm
 have hG7:w.heap.size≤g7:=by omega
 generalize hg8:g7+1 = g8 at m8 ⊢
 have agx:g5≠g8:=by omega
 have Cn:g7≠g8:=by omega
 have aCm:g8≠g5:=agx.symm
 have Qj:g8≠g7:=Cn.symm
 have ZO:w.heap.size≤g8:=by omega
 clear kZ
 try clear hg8
 try clear hg7
 try clear hg5
 have sD:w.heap.size≤W1.heap.size:=mB.size
 have hcon:=kR W1 (hT.below mB)
 (with_reducible refine hcon.mono ?_)
 clear hcon
 rintro e W2 ⟨rfl,hb⟩
 replace m5:=ah m5 hb
 replace m7:=ah m7 hb
 replace m8:=ah m8 hb
 replace mB:=bI mB hb
 clear hb
 have vI:w.heap.size≤W2.heap.size:=mB.size
 clear kR
 by_cases hr:pW s v x t = 0
 case neg =>
  have HZ:Hid (nY s v x t = pW s v x t):=Lib.hid (HE.out.trans (if_pos hr))
  try clear HE
  have HV2:Hid (mW s v x t hd layer = z31):=Lib.hid (HV.out.trans (if_neg (by rw [HZ.out];exact hr)))
  clear HV hok
  generalize pW s v x t = E at*
  generalize Hq s v x t = V at*
  have hz:(E == 0) = false:=beq_eq_false_iff_ne.2 hr
  have hz2:(E != 0) = true:=by rw [bne,hz];rfl
  clear hr HRV
  have a5h:∀ o_,(W2.alloc o_).cell? ⟨g8,0,none⟩ = some (Z ab 0):=fun o_=>(ae (aa m8 o_) 0).trans rfl
  have a5i:∀ o_,(W2.alloc o_).frozen? ⟨g8,0,none⟩ = false:=fun o_=>bg (aa m8 o_) 0
  have a5j:∀ o_,(W2.alloc o_).cell? ⟨g8,1,none⟩ = some (Z ab 0):=fun o_=>(ae (aa m8 o_) 1).trans rfl
  have a5k:∀ o_,(W2.alloc o_).frozen? ⟨g8,1,none⟩ = false:=fun o_=>bg (aa m8 o_) 1
  have a5l:∀ o_,(W2.alloc o_).cell? ⟨g8,2,none⟩ = some (Z ab 0):=fun o_=>(ae (aa m8 o_) 2).trans rfl
  have a5m:∀ o_,(W2.alloc o_).frozen? ⟨g8,2,none⟩ = false:=fun o_=>bg (aa m8 o_) 2
  have a5n:∀ o_,(W2.alloc o_).cell? ⟨g8,3,none⟩ = some (Z ab 0):=fun o_=>(ae (aa m8 o_) 3).trans rfl
  have a5o:∀ o_,(W2.alloc o_).frozen? ⟨g8,3,none⟩ = false:=fun o_=>bg (aa m8 o_) 3
  go_wp2
  exact bodyPost_ret (nN rfl _ _ g8 31 #[Z ab 0,Z ab 0,Z ab 0,Z ab 0] (0,0) _ rfl (aK (aK (aK (aK (aa m8 _) 0 (Z ab 0) rfl) 1 (Z ab 0) rfl) 2 (Z ab 0) rfl) 3 (Z ab 0) rfl) Try.underlying31 rfl aT) rfl ⟨age,(Below.setCell (p:=⟨g8,3,none⟩) (Below.setCell (p:=⟨g8,2,none⟩) (Below.setCell (p:=⟨g8,1,none⟩) (Below.setCell (p:=⟨g8,0,none⟩) (aH mB _) ZO _) ZO _) ZO _) ZO _)⟩
 case pos =>
  obtain ⟨hG,⟨hk0,hk1⟩,_⟩:=hok hr
  clear hok
  have HE2:=Lib.hid (HE.out.trans (if_neg (fun h=>h hr)))
  clear HE
  have aGa:=Lib.hid (HRV.out.trans (if_pos hr))
  clear HRV
  rw [hr,aGa.out]
  clear hr aGa
  have kS:=fun W (h:lC W b s v)=>aoS b s v (fO s v x) W h hS.n hG hS.sh
  have kD:=fun W (h:lC W b s v)=>ao9 b s v x (fO s v x) t hd layer W h hS.n hV hS.cu hS.cb hx.1 hG hk0 hk1 hh0 hh1 hl0 hl1
  clear hS hV hx hG hk0 hk1 hh0 hh1 hl0 hl1
  have hsf:=adR s (fO s v x)
  generalize EA s v x (fO s v x) t hd layer = Y at*
  generalize fO s v x = G at*
  generalize Ex s G = F at*
  go_wp2_with fail
  have Qk:=bO m5
  have VC:=bO m7
  have ZP:=bO m8
  have m10:dW (W2.alloc (.cells #[Z ab G.f0.f0,Z ab G.f0.f1,Z ab G.f1.f0,Z ab G.f1.f1] 31)) (W2.heap.size) #[Z ab G.f0.f0,Z ab G.f0.f1,Z ab G.f1.f0,Z ab G.f1.f1] 31:=(by have h_:=eB W2 (.cells #[Z ab G.f0.f0,Z ab G.f0.f1,Z ab G.f1.f0,Z ab G.f1.f1] 31);first|exact h_|(simp only [World.size_alloc] at h_;exact h_))
  replace m5:dW (W2.alloc (.cells #[Z ab G.f0.f0,Z ab G.f0.f1,Z ab G.f1.f0,Z ab G.f1.f1] 31)) g5 #[Z ab x.f0.f0,Z ab x.f0.f1,Z ab x.f1.f0,Z ab x.f1.f1] 31:=(aa m5 _)
  replace m7:dW (W2.alloc (.cells #[Z ab G.f0.f0,Z ab G.f0.f1,Z ab G.f1.f0,Z ab G.f1.f1] 31)) g7 #[Z ab hd,Z ab layer] 33:=(aa m7 _)
  replace m8:dW (W2.alloc (.cells #[Z ab G.f0.f0,Z ab G.f0.f1,Z ab G.f1.f0,Z ab G.f1.f1] 31)) g8 #[Z ab 0,Z ab 0,Z ab 0,Z ab 0] 31:=(aa m8 _)
  replace mB:Below w.heap.size w (W2.alloc (.cells #[Z ab G.f0.f0,Z ab G.f0.f1,Z ab G.f1.f0,Z ab G.f1.f1] 31)):=(aH mB _)
  have kZ:w.heap.size≤W2.heap.size:=vI
  generalize qQ:(W2.alloc (.cells #[Z ab G.f0.f0,Z ab G.f0.f1,Z ab G.f1.f0,Z ab G.f1.f1] 31)) = W3 at m5 m7 m8 m10 mB ⊢
  clear qQ
  generalize agD:W2.heap.size = g10 at m10 ⊢
  have pF:g5≠g10:=by omega
  have Og:g7≠g10:=by omega
  have atU:g8≠g10:=by omega
  have ZU:g10≠g5:=pF.symm
  have aiX:g10≠g7:=Og.symm
  have aNa:g10≠g8:=atU.symm
  have qU:w.heap.size≤g10:=by omega
  clear kZ Qk VC ZP
  try clear agD
  have FB:w.heap.size≤W3.heap.size:=mB.size
  have hcon:=kS W3 (hT.below mB)
  (with_reducible refine hcon.mono ?_)
  clear hcon
  rintro e W4 ⟨rfl,hb⟩
  replace m5:=ah m5 hb
  replace m7:=ah m7 hb
  replace m8:=ah m8 hb
  replace m10:=ah m10 hb
  replace mB:=bI mB hb
  clear hb
  have Vz:w.heap.size≤W4.heap.size:=mB.size
  clear kS
  rcases hsf with rfl|rfl
  case inr =>
   have HZ:Hid (nY s v x t = 21):=Lib.hid (HE2.out)
   try clear HE
   have HV2:Hid (mW s v x t hd layer = z31):=Lib.hid (HV.out.trans (if_neg (by rw [HZ.out];decide)))
   clear HV
   obtain ⟨LW,LX,MS,MU,aFW,aFX,aWP,aWQ⟩:=jA m8
   go_wp2
   exact bodyPost_ret (nN rfl _ _ g8 31 #[Z ab 0,Z ab 0,Z ab 0,Z ab 0] (0,0) _ rfl (aK (aK (aK (aK m8 0 (Z ab 0) rfl) 1 (Z ab 0) rfl) 2 (Z ab 0) rfl) 3 (Z ab 0) rfl) Try.underlying31 rfl aT) rfl ⟨age,(Below.setCell (p:=⟨g8,3,none⟩) (Below.setCell (p:=⟨g8,2,none⟩) (Below.setCell (p:=⟨g8,1,none⟩) (Below.setCell (p:=⟨g8,0,none⟩) mB ZO _) ZO _) ZO _) ZO _)⟩
  case inl =>
   have HV2:=Lib.hid (HV.out.trans (if_pos HE2.out))
   clear HV
   obtain ⟨R4,VE,apa,apb⟩:=rY m5
   obtain ⟨Qo,Qp⟩:=Ch m7
   obtain ⟨NZ,N7,N8,N9⟩:=rY m10
   go_wp2_with fail
   clear R4 VE apa apb Qo Qp NZ N7 N8 N9
   have hcon:=kD W4 (hT.below mB)
   (with_reducible refine hcon.mono ?_)
   clear hcon
   rintro e W5 ⟨rfl,hb⟩
   replace m5:=ah m5 hb
   replace m7:=ah m7 hb
   replace m8:=ah m8 hb
   replace m10:=ah m10 hb
   replace mB:=bI mB hb
   clear hb
   have VA:w.heap.size≤W5.heap.size:=mB.size
   clear kD
   obtain ⟨LW,LX,MS,MU,aFW,aFX,aWP,aWQ⟩:=jA m8
   go_wp2
   exact bodyPost_ret (nN rfl _ _ g8 31 #[Z ab Y.f0.f0,Z ab Y.f0.f1,Z ab Y.f1.f0,Z ab Y.f1.f1] (0,0) _ rfl (aK (aK (aK (aK m8 0 (Z ab Y.f0.f0) rfl) 1 (Z ab Y.f0.f1) rfl) 2 (Z ab Y.f1.f0) rfl) 3 (Z ab Y.f1.f1) rfl) Try.underlying31 rfl aT) rfl ⟨by rw [HV2.out,HE2.out];rfl,(Below.setCell (p:=⟨g8,3,none⟩) (Below.setCell (p:=⟨g8,2,none⟩) (Below.setCell (p:=⟨g8,1,none⟩) (Below.setCell (p:=⟨g8,0,none⟩) mB ZO _) ZO _) ZO _) ZO _)⟩
end Go.Proofs.Ytmhaiihjfgfaoaa.Gl
end
section
namespace Go.Proofs.Ytmhaiihjfgfaoaa.Pr
open Go.RowKit Go.Proofs.YtmhaiihjfgfaoaaW.bu Go.Proofs.YtmhaiihjfgfaoaaW.dB Go.Proofs.YtmhaiihjfgfaoaaW.ek
attribute [local go_sem] iq iw jq jr iy
def eu.f (a0:Int):Option (Int):=some (mx a0 (an (-a0)))
theorem eu.calls (a0:Int) (r:Int) (w:ao) (h:eu.f a0 = some r):
 Calls Try.prog 117 #[Z ab a0] w fun e w'=>e = .returned (Z ab r)∧Below w.heap.size w w':=by
 have HB:=af.mk (Below.refl w.heap.size w)
 have H:(some (mx a0 (an (-a0)))) = some r:=h
 clear h
 obtain ⟨ji2,atV⟩:∃ j_:Int,(mx a0 (an (-a0))) = j_:=⟨_,rfl⟩
 replace H:(some ji2) = some r:=by first|(rw [atV] at H;exact H)|(simp only [atV] at H ⊢;exact H)
 have a0y:(if a0 < (an (-a0)) then (an (-a0)) else a0) = ji2:=atV
 obtain rfl:=bh H
 go_enter Try.func117,Try.ntmps117
 go_wp2
 go_ret
 exact ⟨by first|rfl|(simp [lg,lh] <;> rfl)|(simp only [← atV];first|rfl|(simp [lg,lh] <;> rfl))|(simp [*,lg,lh] <;> rfl),gp⟩
def eO.f (k:Nat) (ai:Int) (aj:Int) (az:Int) (aA:Int):Option (Int):=(dM.f k (([(⟨ai,aj⟩:jK),(⟨az,aA⟩:jK)]:List (jK)))).bind fun t148=>(if t148 = 0 then ((eu.f ai).bind fun t149=>((eu.f aj).bind fun t150=>((eu.f az).bind fun t151=>((eu.f aA).bind fun t152=>(if (mx (mx (mx t149 t150) t151) t152) > 268435456 then (some 2) else (some 0)))))) else (some t148))
def eO.T4:Bool × List (List Nat × List Nat):=(true,[([],[]),([0],[0]),([1],[1]),([2],[2]),([],[]),([4],[4]),([5],[5]),([6,3],[6]),([],[]),([8],[8]),([9],[9]),([10,7],[10]),([],[]),([12],[12]),([13],[13]),([14,11],[14]),([3,7,11,15],[3,7,11,15]),([16],[16])])
def eO.B4:List Nat:=[0,1,3,7,0,16,48,127,0,256,768,2047,0,4096,12288,32767,65535,131071]
theorem eO.amt:rX .any (opsOf Try.f67 4) = eO.T4:=by kernel_rfl
theorem eO.Yl:oF eO.T4.2 eO.B4 = true:=by kernel_rfl
theorem eO.calls (k:Nat) (ai:Int) (aj:Int) (az:Int) (aA:Int) (r:Int) (w:ao) (h:eO.f k ai aj az aA = some r):
 Calls Try.prog 67 #[.agg #[Z ab ai,Z ab aj,Z ab az,Z ab aA]] w fun e w'=>e = .returned (Z ab r)∧Below w.heap.size w w':=by
 have qj:=Try.underlying31
 have oO:=Try.underlying27
 have HB:=af.mk (Below.refl w.heap.size w)
 have H:((dM.f k (([(⟨ai,aj⟩:jK),(⟨az,aA⟩:jK)]:List (jK)))).bind fun t148=>(if t148 = 0 then ((eu.f ai).bind fun t149=>((eu.f aj).bind fun t150=>((eu.f az).bind fun t151=>((eu.f aA).bind fun t152=>(if (mx (mx (mx t149 t150) t151) t152) > 268435456 then (some 2) else (some 0)))))) else (some t148))) = some r:=h
 clear h
 obtain ⟨agI,adS⟩:∃ y_:List (jK),y_ = (([(⟨ai,aj⟩:jK),(⟨az,aA⟩:jK)]:List (jK))):=⟨_,rfl⟩
 replace H:((dM.f k agI).bind fun t148=>(if t148 = 0 then ((eu.f ai).bind fun t149=>((eu.f aj).bind fun t150=>((eu.f az).bind fun t151=>((eu.f aA).bind fun t152=>(if (mx (mx (mx t149 t150) t151) t152) > 268435456 then (some 2) else (some 0)))))) else (some t148))) = some r:=by first|(rw [adS];with_reducible exact H)|(have yu:=(aE _ _).symm.trans H;rw [adS];with_reducible exact yu)|(have yu:=(aE _ _).symm.trans H;with_reducible exact yu)|with_reducible exact H|(rw [adS];exact H)|exact H
 have Ym:=af.mk adS
 clear adS
 replace H:=Option.bind_eq_some_iff.mp H
 obtain ⟨t148,Yg,H⟩:=H
 replace H:(if t148 = 0 then ((eu.f ai).bind fun t149=>((eu.f aj).bind fun t150=>((eu.f az).bind fun t151=>((eu.f aA).bind fun t152=>(if (mx (mx (mx t149 t150) t151) t152) > 268435456 then (some 2) else (some 0)))))) else (some t148)) = some r:=H
 have A2:=af.mk Yg
 clear Yg
 by_cases c3:t148 = 0
 ·rw [if_pos c3] at H
  have yo:(t148 == 0) = true:=beq_iff_eq.mpr c3
  have JD:(t148 != 0) = false:=bne_eq_false_iff_eq.mpr c3
  clear c3
  replace H:=Option.bind_eq_some_iff.mp H
  obtain ⟨t149,ME,H⟩:=H
  replace H:((eu.f aj).bind fun t150=>((eu.f az).bind fun t151=>((eu.f aA).bind fun t152=>(if (mx (mx (mx t149 t150) t151) t152) > 268435456 then (some 2) else (some 0))))) = some r:=H
  have A4:=af.mk ME
  clear ME
  replace H:=Option.bind_eq_some_iff.mp H
  obtain ⟨t150,VW,H⟩:=H
  replace H:((eu.f az).bind fun t151=>((eu.f aA).bind fun t152=>(if (mx (mx (mx t149 t150) t151) t152) > 268435456 then (some 2) else (some 0)))) = some r:=H
  have A5:=af.mk VW
  clear VW
  replace H:=Option.bind_eq_some_iff.mp H
  obtain ⟨t151,Nn,H⟩:=H
  replace H:((eu.f aA).bind fun t152=>(if (mx (mx (mx t149 t150) t151) t152) > 268435456 then (some 2) else (some 0))) = some r:=H
  have A6:=af.mk Nn
  clear Nn
  replace H:=Option.bind_eq_some_iff.mp H
  obtain ⟨t152,A70,H⟩:=H
  replace H:(if (mx (mx (mx t149 t150) t151) t152) > 268435456 then (some 2) else (some 0)) = some r:=H
  have A7:=af.mk A70
  clear A70
  obtain ⟨ji8,Zi⟩:∃ j_:Int,(mx t149 t150) = j_:=⟨_,rfl⟩
  replace H:(if (mx (mx (ji8) t151) t152) > 268435456 then (some 2) else (some 0)) = some r:=by first|(rw [Zi] at H;exact H)|(simp only [Zi] at H ⊢;exact H)
  (try rw [Zi] at A2)
  (try rw [Zi] at A4)
  (try rw [Zi] at A5)
  (try rw [Zi] at A6)
  (try rw [Zi] at A7)
  have a0z:(if t149 < t150 then t150 else t149) = ji8:=Zi
  obtain ⟨ji9,Zj⟩:∃ j_:Int,(mx (ji8) t151) = j_:=⟨_,rfl⟩
  replace H:(if (mx (ji9) t152) > 268435456 then (some 2) else (some 0)) = some r:=by first|(rw [Zj] at H;exact H)|(simp only [Zj] at H ⊢;exact H)
  (try rw [Zj] at A2)
  (try rw [Zj] at A4)
  (try rw [Zj] at A5)
  (try rw [Zj] at A6)
  (try rw [Zj] at A7)
  have a0A:(if (ji8) < t151 then t151 else (ji8)) = ji9:=Zj
  obtain ⟨apc,Nh⟩:∃ j_:Int,(mx (ji9) t152) = j_:=⟨_,rfl⟩
  replace H:(if (apc) > 268435456 then (some 2) else (some 0)) = some r:=by first|(rw [Nh] at H;exact H)|(simp only [Nh] at H ⊢;exact H)
  (try rw [Nh] at A2)
  (try rw [Nh] at A4)
  (try rw [Nh] at A5)
  (try rw [Nh] at A6)
  (try rw [Nh] at A7)
  have aWR:(if (ji9) < t152 then t152 else (ji9)) = apc:=Nh
  by_cases c11:(apc) > 268435456
  ·rw [if_pos c11] at H
   have I9:decide (268435456 < (apc)) = true:=decide_eq_true c11
   clear c11
   obtain rfl:=bh H
   go_enter Try.func67,Try.ntmps67
   try go_wp2_with (first|((with_reducible refine av (N:=1) rfl ?_);refine ak (by rfl) (N:=1) (by rfl) (cs:=#[Z ab ai,Z ab aj,Z ab az,Z ab aA]) (t:=31) fU ?_;intro Mk hg Ja ay hb;have kQ:=af.mk (ay);have azS:=bY HB hg;have azT:=bY HB hg;replace HB:=dz HB hb;clear hb ay hg;obtain ⟨sV,sW,zw,zx,sZ,tq,zy,zz⟩:=jA kQ.out)|((with_reducible refine av (N:=8) rfl ?_);refine Kd.z8 k27 _ 27 (by rfl) (N:=8) (by rfl) (xs:=([(⟨ai,aj⟩:jK),(⟨az,aA⟩:jK)]:List (jK))) (inner:=[Z ab ai,Z ab aj,Z ab az,Z ab aA]) (ok:=fun _=>True) (okp:=fun _=>True) fU aBR (fun _ hk=>hk) trivial (Below.refl _ _) (Nat.le_refl _) (by simp) ?_;intro v146 w14 apd hb Jn oC;clear Jn oC;(first|rw [← Ym.out] at apd|(simp only [Int.reduceToNat] at apd;rw [← Ym.out] at apd));have nA:=af.mk (Kd.kv apd (fM gp));replace kQ:=bn kQ hb;replace HB:=dz HB hb;clear hb apd;obtain ⟨aWS,aWT,aWU⟩:=Kd.lM nA.out;subst aWU)|((with_reducible refine aU (f:=116) rfl ?_);refine dn (some 9) rfl rfl Try.func116 aT rfl #[.slice aWS agI.length aWT] rfl jB ?_;(with_reducible refine (dM.calls k _ _ agI t148 _ ?dG ?dH A2.out).mono ?_);(case dG=>repeat (first|exact (Kd.fK nA.out).2.2|(with_reducible refine Kd.bJ ?_ _)|(with_reducible refine Kd.bK ?_ _)|(with_reducible refine Kd.bZ ?_)));(case dH=>exact (Kd.fK nA.out).2.1);rintro e DC ⟨rfl,hb⟩;refine ⟨_,rfl,?_⟩;replace nA:=wh nA hb;replace kQ:=bn kQ hb;replace HB:=dz HB hb;(try clear hb);(try clear hb2);(try clear hk);(try clear hi)))
   replace nA:=af.mk (Kd.jP nA.out)
   replace kQ:=af.mk (ag kQ.out)
   replace HB:=af.mk (bF HB.out)
   refine jV (n:=18) (S:=fun w'=>w'.cell? ⟨Mk,0,none⟩ = some (Z ab ai)∧w'.cell? ⟨Mk,1,none⟩ = some (Z ab aj)∧w'.cell? ⟨Mk,2,none⟩ = some (Z ab az)∧w'.cell? ⟨Mk,3,none⟩ = some (Z ab aA)) (ds:=[]) #[al,al,al,al,al,al,al,al,al,al,al,al,al,al,al,al,al,al] aT rfl rfl (rY kQ.out) (fun hHeld=>?_);refine jQ eO.amt eO.Yl (fun dx mD=>?_)
   generalize DC.drew = w18 at nA kQ HB hHeld ⊢
   refine dR (i:=0) (N:=some 13) (aY dx.out aT) ?_
   refine dR (i:=1) (N:=some 14) (aY dx.out aT) ?_
   refine dR (i:=4) (N:=some 17) (aY dx.out aT) ?_
   refine dR (i:=5) (N:=some 18) (aY dx.out aT) ?_
   refine dR (i:=8) (N:=some 21) (aY dx.out aT) ?_
   refine dR (i:=9) (N:=some 22) (aY dx.out aT) ?_
   refine dR (i:=12) (N:=some 25) (aY dx.out aT) ?_
   refine dR (i:=13) (N:=some 26) (aY dx.out aT) ?_
   refine iT (i:=2) (N:=some 15) (bL dx.out mD.out aT) hHeld ?_
   refine iT (i:=6) (N:=some 19) (bL dx.out mD.out aT) hHeld ?_
   refine iT (i:=10) (N:=some 23) (bL dx.out mD.out aT) hHeld ?_
   refine iT (i:=14) (N:=some 27) (bL dx.out mD.out aT) hHeld ?_
   refine iW (i:=3) (N:=some 16) #[ac,ac,ac,ac,ac,ac,ac,al,ac,ac,ac,al,ac,ac,ac,al,al,al] rfl rfl (gJ dx.out aT) (by decide) (fun K hK=>?_)
   refine gY Try.func117 aT rfl #[Z ab ai] (by rfl) rfl rfl jB ?_
   with_reducible refine (eu.calls ai t149 _ A4.out).mono ?_
   rintro e w19 ⟨rfl,hb⟩
   refine ⟨_,rfl,?_⟩
   replace nA:=wh nA hb
   replace kQ:=bn kQ hb
   replace HB:=dz HB hb
   (try clear hb)
   (try clear hb2)
   (try clear hk)
   (try clear hi)
   refine hK.out _ _ (rY kQ.out) (fun hHeld=>?_)
   clear hK K
   refine dQ al8 ?_
   refine iW (i:=7) (N:=some 20) #[ac,ac,ac,ac,ac,ac,ac,ac,ac,ac,ac,al,ac,ac,ac,al,al,al] rfl rfl (gJ dx.out aT) (by decide) (fun K hK=>?_)
   refine gY Try.func117 aT rfl #[Z ab aj] (by rfl) rfl rfl jB ?_
   with_reducible refine (eu.calls aj t150 _ A5.out).mono ?_
   rintro e Jb ⟨rfl,hb⟩
   refine ⟨_,rfl,?_⟩
   replace nA:=wh nA hb
   replace kQ:=bn kQ hb
   replace HB:=dz HB hb
   (try clear hb)
   (try clear hb2)
   (try clear hk)
   (try clear hi)
   refine hK.out _ _ (rY kQ.out) (fun hHeld=>?_)
   clear hK K
   refine dQ aFh ?_
   refine iW (i:=11) (N:=some 24) #[ac,ac,ac,ac,ac,ac,ac,ac,ac,ac,ac,ac,ac,ac,ac,al,al,al] rfl rfl (gJ dx.out aT) (by decide) (fun K hK=>?_)
   refine gY Try.func117 aT rfl #[Z ab az] (by rfl) rfl rfl jB ?_
   with_reducible refine (eu.calls az t151 _ A6.out).mono ?_
   rintro e w21 ⟨rfl,hb⟩
   refine ⟨_,rfl,?_⟩
   replace nA:=wh nA hb
   replace kQ:=bn kQ hb
   replace HB:=dz HB hb
   (try clear hb)
   (try clear hb2)
   (try clear hk)
   (try clear hi)
   refine hK.out _ _ (rY kQ.out) (fun hHeld=>?_)
   clear hK K
   refine dQ aoh ?_
   refine iW (i:=15) (N:=some 28) #[ac,ac,ac,ac,ac,ac,ac,ac,ac,ac,ac,ac,ac,ac,ac,ac,al,al] rfl rfl (gJ dx.out aT) (by decide) (fun K hK=>?_)
   refine gY Try.func117 aT rfl #[Z ab aA] (by rfl) rfl rfl jB ?_
   with_reducible refine (eu.calls aA t152 _ A7.out).mono ?_
   rintro e w22 ⟨rfl,hb⟩
   refine ⟨_,rfl,?_⟩
   replace nA:=wh nA hb
   replace kQ:=bn kQ hb
   replace HB:=dz HB hb
   (try clear hb)
   (try clear hb2)
   (try clear hk)
   (try clear hi)
   refine hK.out _ _ (rY kQ.out) (fun hHeld=>?_)
   clear hK K
   refine dQ aFi ?_
   refine dR (i:=16) (N:=some 29) (aY dx.out aT) ?_
   refine dR (i:=17) (N:=some 30) (aY dx.out aT) ?_
   refine mi (ni dx.out aT) ?_
   try go_wp2
   go_ret
   exact ⟨aFj,gp⟩
  ·rw [if_neg c11] at H
   have I9:decide (268435456 < (apc)) = false:=decide_eq_false c11
   clear c11
   obtain rfl:=bh H
   go_enter Try.func67,Try.ntmps67
   try go_wp2_with (first|((with_reducible refine av (N:=1) rfl ?_);refine ak (by rfl) (N:=1) (by rfl) (cs:=#[Z ab ai,Z ab aj,Z ab az,Z ab aA]) (t:=31) fU ?_;intro Mk hg w23 ay hb;have kQ:=af.mk (ay);have azS:=bY HB hg;have azT:=bY HB hg;replace HB:=dz HB hb;clear hb ay hg;obtain ⟨wP,wQ,Hr,Ht,wS,wT,Hu,Hw⟩:=jA kQ.out)|((with_reducible refine av (N:=8) rfl ?_);refine Kd.z8 k27 _ 27 (by rfl) (N:=8) (by rfl) (xs:=([(⟨ai,aj⟩:jK),(⟨az,aA⟩:jK)]:List (jK))) (inner:=[Z ab ai,Z ab aj,Z ab az,Z ab aA]) (ok:=fun _=>True) (okp:=fun _=>True) fU aBR (fun _ hk=>hk) trivial (Below.refl _ _) (Nat.le_refl _) (by simp) ?_;intro v146 w25 ape hb Jn oC;clear Jn oC;(first|rw [← Ym.out] at ape|(simp only [Int.reduceToNat] at ape;rw [← Ym.out] at ape));have nA:=af.mk (Kd.kv ape (fM gp));replace kQ:=bn kQ hb;replace HB:=dz HB hb;clear hb ape;obtain ⟨aWV,aWW,aWX⟩:=Kd.lM nA.out;subst aWX)|((with_reducible refine aU (f:=116) rfl ?_);refine dn (some 9) rfl rfl Try.func116 aT rfl #[.slice aWV agI.length aWW] rfl jB ?_;(with_reducible refine (dM.calls k _ _ agI t148 _ ?dG ?dH A2.out).mono ?_);(case dG=>repeat (first|exact (Kd.fK nA.out).2.2|(with_reducible refine Kd.bJ ?_ _)|(with_reducible refine Kd.bK ?_ _)|(with_reducible refine Kd.bZ ?_)));(case dH=>exact (Kd.fK nA.out).2.1);rintro e w28 ⟨rfl,hb⟩;refine ⟨_,rfl,?_⟩;replace nA:=wh nA hb;replace kQ:=bn kQ hb;replace HB:=dz HB hb;(try clear hb);(try clear hb2);(try clear hk);(try clear hi)))
   replace nA:=af.mk (Kd.jP nA.out)
   replace kQ:=af.mk (ag kQ.out)
   replace HB:=af.mk (bF HB.out)
   refine jV (n:=18) (S:=fun w'=>w'.cell? ⟨Mk,0,none⟩ = some (Z ab ai)∧w'.cell? ⟨Mk,1,none⟩ = some (Z ab aj)∧w'.cell? ⟨Mk,2,none⟩ = some (Z ab az)∧w'.cell? ⟨Mk,3,none⟩ = some (Z ab aA)) (ds:=[]) #[al,al,al,al,al,al,al,al,al,al,al,al,al,al,al,al,al,al] aT rfl rfl (rY kQ.out) (fun hHeld=>?_);refine jQ eO.amt eO.Yl (fun dx mD=>?_)
   generalize w28.drew = w29 at nA kQ HB hHeld ⊢
   refine dR (i:=0) (N:=some 13) (aY dx.out aT) ?_
   refine dR (i:=1) (N:=some 14) (aY dx.out aT) ?_
   refine dR (i:=4) (N:=some 17) (aY dx.out aT) ?_
   refine dR (i:=5) (N:=some 18) (aY dx.out aT) ?_
   refine dR (i:=8) (N:=some 21) (aY dx.out aT) ?_
   refine dR (i:=9) (N:=some 22) (aY dx.out aT) ?_
   refine dR (i:=12) (N:=some 25) (aY dx.out aT) ?_
   refine dR (i:=13) (N:=some 26) (aY dx.out aT) ?_
   refine iT (i:=2) (N:=some 15) (bL dx.out mD.out aT) hHeld ?_
   refine iT (i:=6) (N:=some 19) (bL dx.out mD.out aT) hHeld ?_
   refine iT (i:=10) (N:=some 23) (bL dx.out mD.out aT) hHeld ?_
   refine iT (i:=14) (N:=some 27) (bL dx.out mD.out aT) hHeld ?_
   refine iW (i:=3) (N:=some 16) #[ac,ac,ac,ac,ac,ac,ac,al,ac,ac,ac,al,ac,ac,ac,al,al,al] rfl rfl (gJ dx.out aT) (by decide) (fun K hK=>?_)
   refine gY Try.func117 aT rfl #[Z ab ai] (by rfl) rfl rfl jB ?_
   with_reducible refine (eu.calls ai t149 _ A4.out).mono ?_
   rintro e w30 ⟨rfl,hb⟩
   refine ⟨_,rfl,?_⟩
   replace nA:=wh nA hb
   replace kQ:=bn kQ hb
   replace HB:=dz HB hb
   (try clear hb)
   (try clear hb2)
   (try clear hk)
   (try clear hi)
   refine hK.out _ _ (rY kQ.out) (fun hHeld=>?_)
   clear hK K
   refine dQ al8 ?_
   refine iW (i:=7) (N:=some 20) #[ac,ac,ac,ac,ac,ac,ac,ac,ac,ac,ac,al,ac,ac,ac,al,al,al] rfl rfl (gJ dx.out aT) (by decide) (fun K hK=>?_)
   refine gY Try.func117 aT rfl #[Z ab aj] (by rfl) rfl rfl jB ?_
   with_reducible refine (eu.calls aj t150 _ A5.out).mono ?_
   rintro e w31 ⟨rfl,hb⟩
   refine ⟨_,rfl,?_⟩
   replace nA:=wh nA hb
   replace kQ:=bn kQ hb
   replace HB:=dz HB hb
   (try clear hb)
   (try clear hb2)
   (try clear hk)
   (try clear hi)
   refine hK.out _ _ (rY kQ.out) (fun hHeld=>?_)
   clear hK K
   refine dQ aFh ?_
   refine iW (i:=11) (N:=some 24) #[ac,ac,ac,ac,ac,ac,ac,ac,ac,ac,ac,ac,ac,ac,ac,al,al,al] rfl rfl (gJ dx.out aT) (by decide) (fun K hK=>?_)
   refine gY Try.func117 aT rfl #[Z ab az] (by rfl) rfl rfl jB ?_
   with_reducible refine (eu.calls az t151 _ A6.out).mono ?_
   rintro e w32 ⟨rfl,hb⟩
   refine ⟨_,rfl,?_⟩
   replace nA:=wh nA hb
   replace kQ:=bn kQ hb
   replace HB:=dz HB hb
   (try clear hb)
   (try clear hb2)
   (try clear hk)
   (try clear hi)
   refine hK.out _ _ (rY kQ.out) (fun hHeld=>?_)
   clear hK K
   refine dQ aoh ?_
   refine iW (i:=15) (N:=some 28) #[ac,ac,ac,ac,ac,ac,ac,ac,ac,ac,ac,ac,ac,ac,ac,ac,al,al] rfl rfl (gJ dx.out aT) (by decide) (fun K hK=>?_)
   refine gY Try.func117 aT rfl #[Z ab aA] (by rfl) rfl rfl jB ?_
   with_reducible refine (eu.calls aA t152 _ A7.out).mono ?_
   rintro e Jd ⟨rfl,hb⟩
   refine ⟨_,rfl,?_⟩
   replace nA:=wh nA hb
   replace kQ:=bn kQ hb
   replace HB:=dz HB hb
   (try clear hb)
   (try clear hb2)
   (try clear hk)
   (try clear hi)
   refine hK.out _ _ (rY kQ.out) (fun hHeld=>?_)
   clear hK K
   refine dQ aFi ?_
   refine dR (i:=16) (N:=some 29) (aY dx.out aT) ?_
   refine dR (i:=17) (N:=some 30) (aY dx.out aT) ?_
   refine mi (ni dx.out aT) ?_
   try go_wp2
   go_ret
   exact ⟨aFj,gp⟩
 ·rw [if_neg c3] at H
  have yo:(t148 == 0) = false:=beq_eq_false_iff_ne.mpr c3
  have JD:(t148 != 0) = true:=bne_iff_ne.mpr c3
  obtain rfl:=bh H
  go_enter Try.func67,Try.ntmps67
  go_wp2_with (first|((with_reducible refine av (N:=1) rfl ?_);refine ak (by rfl) (N:=1) (by rfl) (cs:=#[Z ab ai,Z ab aj,Z ab az,Z ab aA]) (t:=31) fU ?_;intro Mk hg w34 ay hb;have kQ:=af.mk (ay);have azS:=bY HB hg;have azT:=bY HB hg;replace HB:=dz HB hb;clear hb ay hg;obtain ⟨zH,zI,Ei,Ej,zJ,zK,El,Em⟩:=jA kQ.out)|((with_reducible refine av (N:=8) rfl ?_);refine Kd.z8 k27 _ 27 (by rfl) (N:=8) (by rfl) (xs:=([(⟨ai,aj⟩:jK),(⟨az,aA⟩:jK)]:List (jK))) (inner:=[Z ab ai,Z ab aj,Z ab az,Z ab aA]) (ok:=fun _=>True) (okp:=fun _=>True) fU aBR (fun _ hk=>hk) trivial (Below.refl _ _) (Nat.le_refl _) (by simp) ?_;intro v146 w36 apf hb Jn oC;clear Jn oC;(first|rw [← Ym.out] at apf|(simp only [Int.reduceToNat] at apf;rw [← Ym.out] at apf));have nA:=af.mk (Kd.kv apf (fM gp));replace kQ:=bn kQ hb;replace HB:=dz HB hb;clear hb apf;obtain ⟨aCK,aCL,aCM⟩:=Kd.lM nA.out;subst aCM)|((with_reducible refine aU (f:=116) rfl ?_);refine dn (some 9) rfl rfl Try.func116 aT rfl #[.slice aCK agI.length aCL] rfl jB ?_;(with_reducible refine (dM.calls k _ _ agI t148 _ ?dG ?dH A2.out).mono ?_);(case dG=>repeat (first|exact (Kd.fK nA.out).2.2|(with_reducible refine Kd.bJ ?_ _)|(with_reducible refine Kd.bK ?_ _)|(with_reducible refine Kd.bZ ?_)));(case dH=>exact (Kd.fK nA.out).2.1);rintro e w39 ⟨rfl,hb⟩;refine ⟨_,rfl,?_⟩;replace nA:=wh nA hb;replace kQ:=bn kQ hb;replace HB:=dz HB hb;(try clear hb);(try clear hb2);(try clear hk);(try clear hi)))
  go_ret
  exact ⟨mJ,gp⟩
def pI.f (k:Nat) (ai:Int) (aj:Int) (az:Int) (aA:Int) (a1:Int):Option (Int):=(eO.f k ai aj az aA).bind fun t154=>(if t154 = 0 then ((cz.f a1 0 1073741824).bind fun t155=>(if t155 = true then (some 0) else (some 3))) else (some t154))
theorem pI.calls (k:Nat) (ai:Int) (aj:Int) (az:Int) (aA:Int) (a1:Int) (r:Int) (w:ao) (h:pI.f k ai aj az aA a1 = some r):
 Calls Try.prog 114 #[.agg #[Z ab ai,Z ab aj,Z ab az,Z ab aA],Z ab a1] w fun e w'=>e = .returned (Z ab r)∧Below w.heap.size w w':=by
 have qj:=Try.underlying31
 have HB:=af.mk (Below.refl w.heap.size w)
 have H:((eO.f k ai aj az aA).bind fun t154=>(if t154 = 0 then ((cz.f a1 0 1073741824).bind fun t155=>(if t155 = true then (some 0) else (some 3))) else (some t154))) = some r:=h
 clear h
 replace H:=Option.bind_eq_some_iff.mp H
 obtain ⟨t154,PS,H⟩:=H
 replace H:(if t154 = 0 then ((cz.f a1 0 1073741824).bind fun t155=>(if t155 = true then (some 0) else (some 3))) else (some t154)) = some r:=H
 have A3:=af.mk PS
 clear PS
 by_cases c4:t154 = 0
 ·rw [if_pos c4] at H
  have rZ:(t154 == 0) = true:=beq_iff_eq.mpr c4
  have apg:(t154 != 0) = false:=bne_eq_false_iff_eq.mpr c4
  clear c4
  replace H:=Option.bind_eq_some_iff.mp H
  obtain ⟨t155,VW,H⟩:=H
  replace H:(if t155 = true then (some 0) else (some 3)) = some r:=H
  have A5:=af.mk VW
  clear VW
  by_cases c6:t155 = true
  ·subst c6
   have H1:(some 0) = some r:=by rw [if_pos rfl] at H;exact H
   clear H
   have H:=H1
   clear H1
   obtain rfl:=bh H
   go_enter Try.func114,Try.ntmps114
   go_wp2_with (first|((with_reducible refine av (N:=2) rfl ?_);refine ak (by rfl) (N:=2) (by rfl) (cs:=#[Z ab ai,Z ab aj,Z ab az,Z ab aA]) (t:=31) fU ?_;intro azU hg w7 ay hb;have JE:=af.mk (ay);have azV:=bY HB hg;have azW:=bY HB hg;replace HB:=dz HB hb;clear hb ay hg;obtain ⟨P9,Qa,agJ,agK,Qb,Qc,agL,agM⟩:=jA JE.out)|((with_reducible refine aU (f:=67) rfl ?_);refine dn (some 7) rfl rfl Try.func67 aT rfl #[.agg #[Z ab ai,Z ab aj,Z ab az,Z ab aA]] rfl jB ?_;(with_reducible refine (eO.calls k ai aj az aA t154 _ A3.out).mono ?_);rintro e w9 ⟨rfl,hb⟩;refine ⟨_,rfl,?_⟩;replace JE:=bn JE hb;replace HB:=dz HB hb;(try clear hb);(try clear hb2);(try clear hk);(try clear hi))|((with_reducible refine aU (f:=74) rfl ?_);refine dn (some 12) rfl rfl Try.func74 aT rfl #[Z ab a1,Z ab 0,Z ab 1073741824] rfl jB ?_;(with_reducible refine (cz.calls a1 0 1073741824 true _ A5.out).mono ?_);rintro e w' ⟨rfl,⟨nd,rfl⟩⟩;refine ⟨_,rfl,?_⟩))
   go_ret
   exact ⟨mJ,gp⟩
  ·replace c6:=Bool.eq_false_iff.mpr c6
   subst c6
   have H1:(some 3) = some r:=by rw [if_neg (show ¬ (false = true) by decide)] at H;exact H
   clear H
   have H:=H1
   clear H1
   obtain rfl:=bh H
   go_enter Try.func114,Try.ntmps114
   go_wp2_with (first|((with_reducible refine av (N:=2) rfl ?_);refine ak (by rfl) (N:=2) (by rfl) (cs:=#[Z ab ai,Z ab aj,Z ab az,Z ab aA]) (t:=31) fU ?_;intro azU hg w10 ay hb;have JE:=af.mk (ay);have azV:=bY HB hg;have azW:=bY HB hg;replace HB:=dz HB hb;clear hb ay hg;obtain ⟨uf,ug,wV,wW,uh,ui,wX,wY⟩:=jA JE.out)|((with_reducible refine aU (f:=67) rfl ?_);refine dn (some 7) rfl rfl Try.func67 aT rfl #[.agg #[Z ab ai,Z ab aj,Z ab az,Z ab aA]] rfl jB ?_;(with_reducible refine (eO.calls k ai aj az aA t154 _ A3.out).mono ?_);rintro e Ja ⟨rfl,hb⟩;refine ⟨_,rfl,?_⟩;replace JE:=bn JE hb;replace HB:=dz HB hb;(try clear hb);(try clear hb2);(try clear hk);(try clear hi))|((with_reducible refine aU (f:=74) rfl ?_);refine dn (some 12) rfl rfl Try.func74 aT rfl #[Z ab a1,Z ab 0,Z ab 1073741824] rfl jB ?_;(with_reducible refine (cz.calls a1 0 1073741824 false _ A5.out).mono ?_);rintro e w' ⟨rfl,⟨nd,rfl⟩⟩;refine ⟨_,rfl,?_⟩))
   go_ret
   exact ⟨mJ,gp⟩
 ·rw [if_neg c4] at H
  have rZ:(t154 == 0) = false:=beq_eq_false_iff_ne.mpr c4
  have apg:(t154 != 0) = true:=bne_iff_ne.mpr c4
  obtain rfl:=bh H
  go_enter Try.func114,Try.ntmps114
  go_wp2_with (first|((with_reducible refine av (N:=2) rfl ?_);refine ak (by rfl) (N:=2) (by rfl) (cs:=#[Z ab ai,Z ab aj,Z ab az,Z ab aA]) (t:=31) fU ?_;intro azU hg GK ay hb;have JE:=af.mk (ay);have azV:=bY HB hg;have azW:=bY HB hg;replace HB:=dz HB hb;clear hb ay hg;obtain ⟨AY,AZ,KW,KX,Ba,Bb,KY,KZ⟩:=jA JE.out)|((with_reducible refine aU (f:=67) rfl ?_);refine dn (some 7) rfl rfl Try.func67 aT rfl #[.agg #[Z ab ai,Z ab aj,Z ab az,Z ab aA]] rfl jB ?_;(with_reducible refine (eO.calls k ai aj az aA t154 _ A3.out).mono ?_);rintro e w15 ⟨rfl,hb⟩;refine ⟨_,rfl,?_⟩;replace JE:=bn JE hb;replace HB:=dz HB hb;(try clear hb);(try clear hb2);(try clear hk);(try clear hi)))
  go_ret
  exact ⟨mJ,gp⟩
def fJ.l0:Nat→Int→List (gU)→Int→Int→Option (Int)
 |0,_,_,_,_=>none
 |k+1,x1,M8,x11,Qq=>if Qq < x11 then (if 0≤Qq then (if Qq < (M8.length:Int) then (if ((bX M8 Qq).f0) < 0 then (some 2) else (if ((bX M8 Qq).f0) ≥ 9 then (some 2) else (if ((bX M8 Qq).f1) < 0 then (some 2) else (if x1 ≥ 0 then (if ((bX M8 Qq).f1) ≥ x1 then (some 2) else (fJ.l0 k x1 M8 x11 (an (Qq+1)))) else (fJ.l0 k x1 M8 x11 (an (Qq+1))))))) else (none)) else (none)) else (some 0)
def fJ.f (k:Nat) (l0:List (gU)) (a1:Int):Option (Int):=if (l0.length:Int) > 64 then (some 6) else (fJ.l0 k a1 l0 (l0.length:Int) 0)
theorem fJ.calls (k:Nat) (A0:Option Addr) (c0:Nat) (l0:List (gU)) (a1:Int) (r:Int) (w:ao) (hr0:Kd.C yn w A0 l0.length l0) (hc0:l0.length≤c0) (h:fJ.f k l0 a1 = some r):
 Calls Try.prog 65 #[.slice A0 l0.length c0,Z ab a1] w fun e w'=>e = .returned (Z ab r)∧Below w.heap.size w w':=by
 have E9:=Try.underlying33
 have Mh:=af.mk hr0
 have HC0:=af.mk hc0
 clear hr0 hc0
 have HB:=af.mk (Below.refl w.heap.size w)
 have H:(if (l0.length:Int) > 64 then (some 6) else (fJ.l0 k a1 l0 (l0.length:Int) 0)) = some r:=h
 clear h
 by_cases c3:(l0.length:Int) > 64
 ·rw [if_pos c3] at H
  have yo:decide (64 < (l0.length:Int)) = true:=decide_eq_true c3
  have JD:decide (64 < l0.length) = true:=decide_eq_true (by omega)
  clear c3
  obtain rfl:=bh H
  go_enter Try.func65,Try.ntmps65
  go_wp2
  go_ret
  exact ⟨mJ,gp⟩
 ·rw [if_neg c3] at H
  have yo:decide (64 < (l0.length:Int)) = false:=decide_eq_false c3
  have JD:decide (64 < l0.length) = false:=decide_eq_false (by omega)
  clear c3
  have H':=af.mk H
  clear H
  go_enter Try.func65,Try.ntmps65
  go_wp2
  go_loopg [12] k (fun kq v12 w'=>∃ (ku:Int),v12 = Z ab ku∧af (fJ.l0 kq a1 l0 (l0.length:Int) ku = some r)∧af (kq≤k)∧af (Below w.heap.size w w'))
  case atStart=>exact ⟨(0),om,H',⟨Nat.le_refl _⟩,⟨gp⟩⟩
  case round =>
   clear H'
   try clear p2
   try clear c3
   try clear yo
   try clear JD
   obtain ⟨ku,rfl,HA,Cj,HB⟩:=hrel
   cases gk with
   |zero=>exact absurd HA.out (by simp [fJ.l0])
   |succ k1 =>
    have H:=HA.out
    clear HA
    simp only [fJ.l0] at H
    by_cases c4:ku < (l0.length:Int)
    ·rw [if_pos c4] at H
     have rZ:decide (ku < (l0.length:Int)) = true:=decide_eq_true c4
     clear c4
     by_cases c5:0≤ku
     ·rw [if_pos c5] at H
      have yt:decide (0≤ku) = true:=decide_eq_true c5
      clear c5
      by_cases c6:ku < (l0.length:Int)
      ·rw [if_pos c6] at H
       have Du:decide (ku < (l0.length:Int)) = true:=decide_eq_true c6
       clear c6
       by_cases c7:((bX l0 ku).f0) < 0
       ·rw [if_pos c7] at H
        have Oh:decide (((bX l0 ku).f0) < 0) = true:=decide_eq_true c7
        clear c7
        obtain rfl:=bh H
        have Cq:0≤(ku:Int):=of_decide_eq_true nM
        have Cr:ku < (l0.length:Int):=of_decide_eq_true nM
        obtain ⟨adT,VX,nC,nD⟩:=lN Mh.out ku Cq Cr
        cases VX
        replace nC:=(HB.out.cell (bd w _ nC)).trans nC
        replace nD:=(HB.out.cell (bd w _ nD)).trans nD
        replace Cq:=eq_true Cq
        replace Cr:=eq_true Cr
        go_wp2_with (first|((with_reducible refine av (N:=6) rfl ?_);refine ak (by rfl) (N:=6) (by rfl) (cs:=#[Z ab 0,Z ab 0]) (t:=33) fU ?_;intro adU hg w8 ay hb;have JF:=af.mk (ay);have adV:=bY HB hg;have adW:=bY HB hg;replace HB:=dz HB hb;clear hb ay hg;obtain ⟨yB,yC,yD,yE⟩:=iQ JF.out))
        go_ret
        exact ⟨mJ,gp⟩
       ·rw [if_neg c7] at H
        have Oh:decide (((bX l0 ku).f0) < 0) = false:=decide_eq_false c7
        clear c7
        by_cases c10:((bX l0 ku).f0) ≥ 9
        ·rw [if_pos c10] at H
         have Cs:decide (9≤((bX l0 ku).f0)) = true:=decide_eq_true c10
         clear c10
         obtain rfl:=bh H
         have Cq:0≤(ku:Int):=of_decide_eq_true nM
         have Cr:ku < (l0.length:Int):=of_decide_eq_true nM
         obtain ⟨adT,VX,nC,nD⟩:=lN Mh.out ku Cq Cr
         cases VX
         replace nC:=(HB.out.cell (bd w _ nC)).trans nC
         replace nD:=(HB.out.cell (bd w _ nD)).trans nD
         replace Cq:=eq_true Cq
         replace Cr:=eq_true Cr
         go_wp2_with (first|((with_reducible refine av (N:=6) rfl ?_);refine ak (by rfl) (N:=6) (by rfl) (cs:=#[Z ab 0,Z ab 0]) (t:=33) fU ?_;intro adU hg w11 ay hb;have JF:=af.mk (ay);have adV:=bY HB hg;have adW:=bY HB hg;replace HB:=dz HB hb;clear hb ay hg;obtain ⟨qa,qb,qc,qd⟩:=iQ JF.out))
         go_ret
         exact ⟨mJ,gp⟩
        ·rw [if_neg c10] at H
         have Cs:decide (9≤((bX l0 ku).f0)) = false:=decide_eq_false c10
         clear c10
         by_cases c13:((bX l0 ku).f1) < 0
         ·rw [if_pos c13] at H
          have aph:decide (((bX l0 ku).f1) < 0) = true:=decide_eq_true c13
          clear c13
          obtain rfl:=bh H
          have Cq:0≤(ku:Int):=of_decide_eq_true nM
          have Cr:ku < (l0.length:Int):=of_decide_eq_true nM
          obtain ⟨adT,VX,nC,nD⟩:=lN Mh.out ku Cq Cr
          cases VX
          replace nC:=(HB.out.cell (bd w _ nC)).trans nC
          replace nD:=(HB.out.cell (bd w _ nD)).trans nD
          replace Cq:=eq_true Cq
          replace Cr:=eq_true Cr
          go_wp2_with (first|((with_reducible refine av (N:=6) rfl ?_);refine ak (by rfl) (N:=6) (by rfl) (cs:=#[Z ab 0,Z ab 0]) (t:=33) fU ?_;intro adU hg w14 ay hb;have JF:=af.mk (ay);have adV:=bY HB hg;have adW:=bY HB hg;replace HB:=dz HB hb;clear hb ay hg;obtain ⟨oG,oH,oI,oJ⟩:=iQ JF.out))
          go_ret
          exact ⟨mJ,gp⟩
         ·rw [if_neg c13] at H
          have aph:decide (((bX l0 ku).f1) < 0) = false:=decide_eq_false c13
          clear c13
          by_cases c16:a1 ≥ 0
          ·rw [if_pos c16] at H
           have EB:decide (0≤a1) = true:=decide_eq_true c16
           clear c16
           by_cases c17:((bX l0 ku).f1) ≥ a1
           ·rw [if_pos c17] at H
            have aGe:decide (a1≤((bX l0 ku).f1)) = true:=decide_eq_true c17
            clear c17
            obtain rfl:=bh H
            have Cq:0≤(ku:Int):=of_decide_eq_true nM
            have Cr:ku < (l0.length:Int):=of_decide_eq_true nM
            obtain ⟨adT,VX,nC,nD⟩:=lN Mh.out ku Cq Cr
            cases VX
            replace nC:=(HB.out.cell (bd w _ nC)).trans nC
            replace nD:=(HB.out.cell (bd w _ nD)).trans nD
            replace Cq:=eq_true Cq
            replace Cr:=eq_true Cr
            go_wp2_with (first|((with_reducible refine av (N:=6) rfl ?_);refine ak (by rfl) (N:=6) (by rfl) (cs:=#[Z ab 0,Z ab 0]) (t:=33) fU ?_;intro adU hg w18 ay hb;have JF:=af.mk (ay);have adV:=bY HB hg;have adW:=bY HB hg;replace HB:=dz HB hb;clear hb ay hg;obtain ⟨uR,uS,uT,uU⟩:=iQ JF.out))
            go_ret
            exact ⟨mJ,gp⟩
           ·rw [if_neg c17] at H
            have aGe:decide (a1≤((bX l0 ku).f1)) = false:=decide_eq_false c17
            clear c17
            have H':=af.mk H
            clear H
            have Cq:0≤(ku:Int):=of_decide_eq_true nM
            have Cr:ku < (l0.length:Int):=of_decide_eq_true nM
            obtain ⟨adT,VX,nC,nD⟩:=lN Mh.out ku Cq Cr
            cases VX
            replace nC:=(HB.out.cell (bd w _ nC)).trans nC
            replace nD:=(HB.out.cell (bd w _ nD)).trans nD
            replace Cq:=eq_true Cq
            replace Cr:=eq_true Cr
            go_wp2_with (first|((with_reducible refine av (N:=6) rfl ?_);refine ak (by rfl) (N:=6) (by rfl) (cs:=#[Z ab 0,Z ab 0]) (t:=33) fU ?_;intro adU hg Jb ay hb;have JF:=af.mk (ay);have adV:=bY HB hg;have adW:=bY HB hg;replace HB:=dz HB hb;clear hb ay hg;obtain ⟨tO,tQ,tT,tV⟩:=iQ JF.out))
            go_roundg k1
            case measure=>have:=Cj.out;omega
            case rel=>exact ⟨(an (ku+1)),om,H',⟨zq7⟩,⟨gp⟩⟩
          ·rw [if_neg c16] at H
           have EB:decide (0≤a1) = false:=decide_eq_false c16
           clear c16
           have H':=af.mk H
           clear H
           have Cq:0≤(ku:Int):=of_decide_eq_true nM
           have Cr:ku < (l0.length:Int):=of_decide_eq_true nM
           obtain ⟨adT,VX,nC,nD⟩:=lN Mh.out ku Cq Cr
           cases VX
           replace nC:=(HB.out.cell (bd w _ nC)).trans nC
           replace nD:=(HB.out.cell (bd w _ nD)).trans nD
           replace Cq:=eq_true Cq
           replace Cr:=eq_true Cr
           go_wp2_with (first|((with_reducible refine av (N:=6) rfl ?_);refine ak (by rfl) (N:=6) (by rfl) (cs:=#[Z ab 0,Z ab 0]) (t:=33) fU ?_;intro adU hg w22 ay hb;have JF:=af.mk (ay);have adV:=bY HB hg;have adW:=bY HB hg;replace HB:=dz HB hb;clear hb ay hg;obtain ⟨Bg,Bh,Bi,Bj⟩:=iQ JF.out))
           go_roundg k1
           case measure=>have:=Cj.out;omega
           case rel=>exact ⟨(an (ku+1)),om,H',⟨zq7⟩,⟨gp⟩⟩
      ·rw [if_neg c6] at H
       exact absurd H (by simp)
     ·rw [if_neg c5] at H
      exact absurd H (by simp)
    ·rw [if_neg c4] at H
     have rZ:decide (ku < (l0.length:Int)) = false:=decide_eq_false c4
     clear c4
     obtain rfl:=bh H
     go_wp2
     go_ret
     exact ⟨mJ,gp⟩
end Go.Proofs.Ytmhaiihjfgfaoaa.Pr
end
section
namespace Go.Proofs.Ytmhaiihjfgfaoaa.Gl
open Go.RowKit Go.Shelf Go.Proofs.YtmhaiihjfgfaoaaW.bu Go.Proofs.YtmhaiihjfgfaoaaW.dB Go.Proofs.YtmhaiihjfgfaoaaW.ek Go.Proofs.Ytmhaiihjfgfaoaa.Pr Go.Proofs.YtmhaiihjfgfaoaaW.Round
attribute [local go_sem] iq iw jq jr iy
theorem Oi {n:Int} (h0:-9223372036854775808≤n) (h1:n≤9223372036854775807):an n = n:=by unfold an;omega
def wZ (v:nW):Bool:=nU v.speed 0 5000 && nU v.bq 1 131072 && si v.use.f0 v.use.f1 0 1073741824 && si v.aV.f0 v.aV.f1 0 1073741824 && nU v.reserve 0 1073741824
def R7 (v:nW):Int:=if wZ v then 0 else 2
theorem VY (x lo hi:Int):cz.f x lo hi = some (nU x lo hi):=by
 unfold cz.f nU
 by_cases h:x ≥ lo
 ·rw [if_pos h,show decide (lo≤x) = true from decide_eq_true h];simp
 ·rw [if_neg h,show decide (lo≤x) = false from decide_eq_false h];simp
theorem api (v:nW):eD.f 4 v.speed v.bq v.use.f0 v.use.f1 v.aV.f0 v.aV.f1 v.reserve = some (R7 v):=by
 unfold eD.f R7 wZ
 simp only [VY,ady 2,aE]
 cases nU v.speed 0 5000 <;> cases nU v.bq 1 131072 <;> cases si v.use.f0 v.use.f1 0 1073741824 <;> cases si v.aV.f0 v.aV.f1 0 1073741824 <;> cases nU v.reserve 0 1073741824 <;> rfl
theorem aiY (v:nW) (w:ao):Calls Try.prog 27 #[.agg #[Z ab v.speed,Z ab v.bq,Z ab v.use.f0,Z ab v.use.f1,Z ab v.aV.f0,Z ab v.aV.f1,Z ab v.reserve]] w (yw (Z ab (R7 v)) w):=eD.calls 4 _ _ _ _ _ _ _ _ w (api v)
def XI (x:iA):Bool:=(NV x.f0.f0 x.f0.f1 && NV x.f1.f0 x.f1.f1) && (nU x.f0.f0 (-268435456) 268435456 && nU x.f0.f1 (-268435456) 268435456 && nU x.f1.f0 (-268435456) 268435456 && nU x.f1.f1 (-268435456) 268435456)
def XJ (x:iA):Int:=if XI x then 0 else 2
theorem Yn (k:Nat) (a b:jK):dM.f (k+3) [a,b] = some (if NV a.f0 a.f1 && NV b.f0 b.f1 then 0 else 2):=by
 unfold dM.f
 have e1:(([a,b]:List jK).length:Int) = 2:=rfl
 have r0:pV [a,b] 0 = a:=rfl
 have r1:pV [a,b] 1 = b:=rfl
 have w1:an (0+1) = 1:=Oi (by decide) (by decide)
 have w2:an (1+1) = 2:=Oi (by decide) (by decide)
 have step:∀ (c:jK) (r:Option Int),(if c.f0 > c.f1 then some 2 else if c.f0 < -1073741824 then some 2 else if c.f1 > 1073741824 then some 2 else r) = if NV c.f0 c.f1 then r else some 2:=by
  intro c r
  cases h:NV c.f0 c.f1 with
  |true =>
   have:=BC.1 h
   rw [if_neg (by omega),if_neg (by omega),if_neg (by omega),if_pos rfl]
  |false =>
   have hn:¬ (c.f0≤c.f1∧-1073741824≤c.f0∧c.f1≤1073741824):=fun h2=>by rw [BC.2 h2] at h;cases h
   rw [show (if false = true then r else some 2) = some 2 from rfl]
   by_cases h1:c.f0 > c.f1
   ·rw [if_pos h1]
   ·rw [if_neg h1]
    by_cases h2:c.f0 < -1073741824
    ·rw [if_pos h2]
    ·rw [if_neg h2,if_pos (by omega)]
 simp only [dM.l0,e1]
 rw [if_pos (by decide),if_pos (by decide),if_pos (by decide),r0,step]
 cases ha:NV a.f0 a.f1 with
 |false=>rfl
 |true =>
  rw [if_pos rfl,w1,if_pos (by decide),if_pos (by decide),if_pos (by decide),r1,step]
  cases hb:NV b.f0 b.f1 with
  |false=>rfl
  |true =>
   rw [if_pos rfl,w2,if_neg (by decide)]
   rfl
theorem adX (x:iA):eO.f 4 x.f0.f0 x.f0.f1 x.f1.f0 x.f1.f1 = some (XJ x):=by
 unfold eO.f XJ XI
 rw [Yn 1,aE]
 cases h:(NV x.f0.f0 x.f0.f1 && NV x.f1.f0 x.f1.f1) with
 |false=>rfl
 |true =>
  rw [Bool.and_eq_true] at h
  have h1:=BC.1 h.1
  have h2:=BC.1 h.2
  have am:∀ a:Int,-1073741824≤a→a≤1073741824→eu.f a = some (max a (-a)):=fun a h0 h1=>by
   unfold eu.f
   rw [Ez,Oi (by omega) (by omega)]
  rw [show (if (true = true) then (0:Int) else 2) = 0 from rfl,if_pos rfl]
  simp only [am _ h1.2.1 (by omega),am _ (show -1073741824≤x.f0.f1 by omega) h1.2.2,am _ h2.2.1 (by omega),am _ (show -1073741824≤x.f1.f1 by omega) h2.2.2,aE,Ez]
  by_cases hb:max (max (max (max x.f0.f0 (-x.f0.f0)) (max x.f0.f1 (-x.f0.f1))) (max x.f1.f0 (-x.f1.f0))) (max x.f1.f1 (-x.f1.f1)) > 268435456
  ·rw [if_pos hb,if_neg]
   rw [Bool.true_and,Bool.and_eq_true,Bool.and_eq_true,Bool.and_eq_true,jg,jg,jg,jg]
   omega
  ·rw [if_neg hb,if_pos]
   rw [Bool.true_and,Bool.and_eq_true,Bool.and_eq_true,Bool.and_eq_true,jg,jg,jg,jg]
   omega
def oK (x:iA) (t:Int):Int:=if XJ x≠0 then XJ x else if nU t 0 1073741824 then 0 else 3
theorem agN (x:iA) (t:Int):pI.f 4 x.f0.f0 x.f0.f1 x.f1.f0 x.f1.f1 t = some (oK x t):=by
 unfold pI.f oK
 rw [adX,aE,VY,aE]
 by_cases h:XJ x = 0
 ·rw [if_pos h,if_neg (show ¬ (XJ x≠0) from fun h2=>h2 h)]
  cases nU t 0 1073741824 <;> rfl
 ·rw [if_neg h,if_pos h]
theorem Yo (x:iA) (t:Int) (w:ao):Calls Try.prog 114 #[.agg #[Z ab x.f0.f0,Z ab x.f0.f1,Z ab x.f1.f0,Z ab x.f1.f1],Z ab t] w (yw (Z ab (oK x t)) w):=pI.calls 4 _ _ _ _ _ _ w (agN x t)
def FH (layers:Int) (c:gU):Bool:=nU c.f0 0 8 && decide (0≤c.f1) && (decide (layers < 0) || decide (c.f1 < layers))
def Ct (l:List gU) (layers:Int):Int:=if l.length > 64 then 6 else if l.all (FH layers) then 0 else 2
theorem apj (layers:Int) (l:List gU) (hl:l.length≤64):∀ (m i k:Nat),i+m = l.length→m < k→fJ.l0 k layers l (l.length:Int) (i:Int) = some (if (l.drop i).all (FH layers) then 0 else 2):=by
 intro m
 induction m with
 |zero =>
  intro i k h hk
  obtain ⟨k,rfl⟩:∃ q,k = q+1:=⟨k - 1,by omega⟩
  rw [fJ.l0,if_neg (by omega),List.drop_of_length_le (by omega)]
  rfl
 |succ m ih =>
  intro i k h hk
  obtain ⟨k,rfl⟩:∃ q,k = q+1:=⟨k - 1,by omega⟩
  have hi:i < l.length:=by omega
  have hr:bX l (i:Int) = l[i]:=by
   unfold bX
   rw [List.getD_eq_getElem?_getD,Int.toNat_natCast,List.getElem?_eq_getElem hi]
   rfl
  have hih:=ih (i+1) k (by omega) (by omega)
  rw [fJ.l0,if_pos (by omega),if_pos (by omega),if_pos (by omega),hr,Oi (by omega) (by omega),show ((i:Int)+1) = ((i+1:Nat):Int) by omega,hih,List.drop_eq_getElem_cons hi,List.all_cons]
  cases hb:FH layers l[i] with
  |true =>
   have hb2:FH layers l[i] = true:=hb
   unfold FH at hb2
   simp only [Bool.and_eq_true,Bool.or_eq_true,decide_eq_true_eq,jg] at hb2
   rw [Bool.true_and,if_neg (by omega),if_neg (by omega),if_neg (by omega)]
   by_cases h0:layers ≥ 0
   ·rw [if_pos h0,if_neg (by omega)]
   ·rw [if_neg h0]
  |false =>
   have hn:¬ ((0≤l[i].f0∧l[i].f0≤8)∧0≤l[i].f1∧(layers < 0∨l[i].f1 < layers)):=fun h2=>by
    have:FH layers l[i] = true:=by
     unfold FH
     simp only [Bool.and_eq_true,Bool.or_eq_true,decide_eq_true_eq,jg]
     exact ⟨⟨h2.1,h2.2.1⟩,h2.2.2⟩
    rw [this] at hb
    cases hb
   rw [Bool.false_and,if_neg (show ¬ (false = true) by decide)]
   by_cases a1:l[i].f0 < 0
   ·rw [if_pos a1]
   ·rw [if_neg a1]
    by_cases a2:l[i].f0 ≥ 9
    ·rw [if_pos a2]
    ·rw [if_neg a2]
     by_cases a3:l[i].f1 < 0
     ·rw [if_pos a3]
     ·rw [if_neg a3,if_pos (by omega),if_pos (by omega)]
theorem apk (l:List gU) (layers:Int):fJ.f 66 l layers = some (Ct l layers):=by
 unfold fJ.f Ct
 by_cases h:l.length > 64
 ·rw [if_pos (by omega),if_pos h]
 ·rw [if_neg (by omega),if_neg h]
  have:=apj layers l (by omega) l.length 0 66 (by omega) (by omega)
  rw [List.drop_zero] at this
  exact this
theorem aiZ (A:Option Addr) (c:Nat) (l:List gU) (layers:Int) (w:ao) (hC:Kd.C yn w A l.length l) (hc:l.length≤c):Calls Try.prog 65 #[.slice A l.length c,Z ab layers] w (yw (Z ab (Ct l layers)) w):=fJ.calls 66 _ _ _ _ _ w hC hc (apk l layers)
theorem Z8 (s:lK):(Az s = 0∧adz s = true)∨Az s = 2:=by
 unfold Az
 cases adz s
 ·exact .inr rfl
 ·exact .inl ⟨rfl,rfl⟩
theorem Z9 (v:nW):(R7 v = 0∧wZ v = true)∨R7 v = 2:=by
 unfold R7
 cases wZ v
 ·exact .inr rfl
 ·exact .inl ⟨rfl,rfl⟩
theorem FI {lo hi a b:Int}:si lo hi a b = true↔(lo≤hi∧-1073741824≤lo∧hi≤1073741824)∧a≤lo∧hi≤b:=by unfold si;simp only [Bool.and_eq_true,decide_eq_true_eq,BC];exact and_assoc
theorem atX {s:lK} (h:adz s = true):VS s:=by
 unfold adz at h
 simp only [Bool.and_eq_true,decide_eq_true_eq,jg,Bool.not_eq_true'] at h
 obtain ⟨⟨⟨⟨⟨⟨⟨⟨⟨h0,h1⟩,h2⟩,h3⟩,h4⟩,h5⟩,h6⟩,h7⟩,h8⟩,h9⟩:=h
 refine ⟨⟨h0,h1,h2,h3,h4,h5,h6⟩,h7,h8,fun c hc=>?_⟩
 have:=List.any_eq_false.1 h9 c hc
 unfold XB at this
 simp only [Bool.not_eq_true,Bool.or_eq_false_iff,Bool.not_eq_false',FI] at this
 omega
theorem atY {v:nW} (h:wZ v = true):Fz v:=by
 unfold wZ at h
 simp only [Bool.and_eq_true,jg] at h
 exact ⟨h.1.1.1.1,h.1.1.1.2⟩
theorem atZ {x:iA} (h:XJ x = 0):vK x:=by
 unfold XJ at h
 cases hb:XI x with
 |false=>rw [hb] at h;cases h
 |true =>
  unfold XI at hb
  simp only [Bool.and_eq_true,jg,BC] at hb
  unfold vK JC
  omega
def lW (s:lK) (v:nW):Int:=if Az s≠0 then Az s else R7 v
theorem JG {s:lK} {v:nW} (h:lW s v = 0):VS s∧Fz v:=by
 unfold lW at h
 rcases Z8 s with ⟨h1,h2⟩|h1
 ·rw [if_neg (by omega)] at h
  rcases Z9 v with ⟨h3,h4⟩|h3
  ·exact ⟨atX h2,atY h4⟩
  ·omega
 ·rw [if_pos (by omega)] at h
  omega
def adY (s:lK) (v:nW) (E:Int) (w:ao) (e:Ending) (w':ao):Prop :=
 ∃ ptr,e = .returned (.tuple #[.pointer ptr,Z ab E])∧Below w.heap.size w w'∧((lW s v = 0∧∃ g,ptr = some ⟨g,0,none⟩∧w.heap.size≤g∧lC w' g s v)∨(lW s v≠0∧ptr = none))
theorem adZ (s:lK) (v:nW) (A7 A8:Option Addr) (c7 c8:Nat) (w:ao) (h7:s.bf.length≤c7) (XC:Kd.C Kd.bool w A7 s.bf.length s.bf) (h8:s.aC.length≤c8) (Rx:Kd.C Dt w A8 s.aC.length s.aC):
 Calls Try.prog 113 #[.agg #[Z ab s.nx,Z ab s.ny,Z ab s.cell,Z ab s.slot,Z ab s.slots,Z ab s.layers,Z ab s.most,.slice A7 s.bf.length c7,.slice A8 s.aC.length c8],.agg #[Z ab v.speed,Z ab v.bq,Z ab v.use.f0,Z ab v.use.f1,Z ab v.aV.f0,Z ab v.aV.f1,Z ab v.reserve]] w (adY s v (lW s v) w):=by
 have xS:=Try.underlying25
 have vo:=Try.underlying29
 have azX:=Try.underlying110
 have HE:Hid (lW s v = if Az s≠0 then Az s else R7 v):=Lib.hid rfl
 go_enter Try.func113,Try.ntmps113
 go_wp2_with fail
 have m2:dW ((w.alloc (.cells #[Z ab s.nx,Z ab s.ny,Z ab s.cell,Z ab s.slot,Z ab s.slots,Z ab s.layers,Z ab s.most,.slice A7 s.bf.length c7,.slice A8 s.aC.length c8] 25)).alloc (.cells #[Z ab v.speed,Z ab v.bq,Z ab v.use.f0,Z ab v.use.f1,Z ab v.aV.f0,Z ab v.aV.f1,Z ab v.reserve] 29)) (w.heap.size) #[Z ab s.nx,Z ab s.ny,Z ab s.cell,Z ab s.slot,Z ab s.slots,Z ab s.layers,Z ab s.most,.slice A7 s.bf.length c7,.slice A8 s.aC.length c8] 25:=(aa Zh _)
 have m3:dW ((w.alloc (.cells #[Z ab s.nx,Z ab s.ny,Z ab s.cell,Z ab s.slot,Z ab s.slots,Z ab s.layers,Z ab s.most,.slice A7 s.bf.length c7,.slice A8 s.aC.length c8] 25)).alloc (.cells #[Z ab v.speed,Z ab v.bq,Z ab v.use.f0,Z ab v.use.f1,Z ab v.aV.f0,Z ab v.aV.f1,Z ab v.reserve] 29)) (w.heap.size+1) #[Z ab v.speed,Z ab v.bq,Z ab v.use.f0,Z ab v.use.f1,Z ab v.aV.f0,Z ab v.aV.f1,Z ab v.reserve] 29:=ac2
 have mB:Below w.heap.size w ((w.alloc (.cells #[Z ab s.nx,Z ab s.ny,Z ab s.cell,Z ab s.slot,Z ab s.slots,Z ab s.layers,Z ab s.most,.slice A7 s.bf.length c7,.slice A8 s.aC.length c8] 25)).alloc (.cells #[Z ab v.speed,Z ab v.bq,Z ab v.use.f0,Z ab v.use.f1,Z ab v.aV.f0,Z ab v.aV.f1,Z ab v.reserve] 29)):=(aH (aH (Below.refl w.heap.size w) _) _)
 have kZ:w.heap.size≤w.heap.size:=Nat.le_refl _
 generalize qQ:((w.alloc (.cells #[Z ab s.nx,Z ab s.ny,Z ab s.cell,Z ab s.slot,Z ab s.slots,Z ab s.layers,Z ab s.most,.slice A7 s.bf.length c7,.slice A8 s.aC.length c8] 25)).alloc (.cells #[Z ab v.speed,Z ab v.bq,Z ab v.use.f0,Z ab v.use.f1,Z ab v.aV.f0,Z ab v.aV.f1,Z ab v.reserve] 29)) = W1 at m2 m3 mB ⊢
 clear qQ
 generalize hg2:w.heap.size = g2 at m2 m3 ⊢
 have hG2:w.heap.size≤g2:=by omega
 generalize hg3:g2+1 = g3 at m3 ⊢
 have MQ:g2≠g3:=by omega
 have agB:g3≠g2:=MQ.symm
 have hG3:w.heap.size≤g3:=by omega
 clear kZ
 try clear hg3
 try clear hg2
 have sD:w.heap.size≤W1.heap.size:=mB.size
 have hcon:=aiM s A7 A8 c7 c8 W1 h7 (Kd.bz XC mB) h8 (Kd.bz Rx mB)
 (with_reducible refine hcon.mono ?_)
 clear hcon
 rintro e W2 ⟨rfl,hb⟩
 replace m2:=ah m2 hb
 replace m3:=ah m3 hb
 replace mB:=bI mB hb
 clear hb
 have vI:w.heap.size≤W2.heap.size:=mB.size
 rcases Z8 s with ⟨h1,_⟩|h1
 case inr =>
  have HZ:Hid (lW s v = 2):=Lib.hid (HE.out.trans (by rw [h1];rfl))
  rw [h1]
  clear h1 HE
  go_wp2
  go_ret2
  exact ⟨none,qi,mB,.inr ⟨by rw [HZ.out];decide,rfl⟩⟩
 case inl =>
  have HE2:=Lib.hid (HE.out.trans (if_neg (by omega)))
  clear HE
  rw [h1]
  clear h1
  obtain ⟨ad1,ad2,ad3,ad4,ad5,ad6,ad7⟩:=Ci m3
  go_wp2_with fail
  clear ad1 ad2 ad3 ad4 ad5 ad6 ad7
  have hcon:=aiY v W2
  (with_reducible refine hcon.mono ?_)
  clear hcon
  rintro e W3 ⟨rfl,hb⟩
  replace m2:=ah m2 hb
  replace m3:=ah m3 hb
  replace mB:=bI mB hb
  clear hb
  have FB:w.heap.size≤W3.heap.size:=mB.size
  rcases Z9 v with ⟨h1,_⟩|h1
  case inr =>
   have HE:=HE2
   have HZ:Hid (lW s v = 2):=Lib.hid (HE2.out.trans h1)
   rw [h1]
   clear h1 HE
   go_wp2
   go_ret2
   exact ⟨none,qi,mB,.inr ⟨by rw [HZ.out];decide,rfl⟩⟩
  case inl =>
   have HZ:=Lib.hid (HE2.out.trans h1)
   rw [h1]
   clear h1 HE2
   obtain ⟨aCh,aCi,aCj,aCk,aW1,aW2,aW3,aW4,aW5⟩:=Ay m2
   obtain ⟨ad1,ad2,ad3,ad4,ad5,ad6,ad7⟩:=Ci m3
   go_wp2
   go_ret2
   exact ⟨_,qi,aH mB _,.inl ⟨HZ.out,W3.heap.size,rfl,mB.size,A7,c7,A8,c8,eB W3 (.cells #[Z ab s.nx,Z ab s.ny,Z ab s.cell,Z ab s.slot,Z ab s.slots,Z ab s.layers,Z ab s.most,.slice A7 s.bf.length c7,.slice A8 s.aC.length c8,Z ab v.speed,Z ab v.bq,Z ab v.use.f0,Z ab v.use.f1,Z ab v.aV.f0,Z ab v.aV.f1,Z ab v.reserve] 110),h7,Kd.bz XC (aH mB _),h8,Kd.bz Rx (aH mB _)⟩⟩
def oL (s:lK) (v:nW) (x:iA) (t:Int):Int:=if lW s v≠0 then lW s v else oK x t
theorem Yp (s:lK) (v:nW) (x:iA) (t:Int) (A7 A8:Option Addr) (c7 c8:Nat) (w:ao) (h7:s.bf.length≤c7) (XC:Kd.C Kd.bool w A7 s.bf.length s.bf) (h8:s.aC.length≤c8) (Rx:Kd.C Dt w A8 s.aC.length s.aC):
 Calls Try.prog 64 #[.agg #[Z ab s.nx,Z ab s.ny,Z ab s.cell,Z ab s.slot,Z ab s.slots,Z ab s.layers,Z ab s.most,.slice A7 s.bf.length c7,.slice A8 s.aC.length c8],.agg #[Z ab v.speed,Z ab v.bq,Z ab v.use.f0,Z ab v.use.f1,Z ab v.aV.f0,Z ab v.aV.f1,Z ab v.reserve],.agg #[Z ab x.f0.f0,Z ab x.f0.f1,Z ab x.f1.f0,Z ab x.f1.f1],Z ab t] w (adY s v (oL s v x t) w):=by
 have xS:=Try.underlying25
 have vo:=Try.underlying29
 have qj:=Try.underlying31
 have HE:Hid (oL s v x t = if lW s v≠0 then lW s v else oK x t):=Lib.hid rfl
 go_enter Try.func64,Try.ntmps64
 go_wp2_with fail
 have m4:dW (((w.alloc (.cells #[Z ab s.nx,Z ab s.ny,Z ab s.cell,Z ab s.slot,Z ab s.slots,Z ab s.layers,Z ab s.most,.slice A7 s.bf.length c7,.slice A8 s.aC.length c8] 25)).alloc (.cells #[Z ab v.speed,Z ab v.bq,Z ab v.use.f0,Z ab v.use.f1,Z ab v.aV.f0,Z ab v.aV.f1,Z ab v.reserve] 29)).alloc (.cells #[Z ab x.f0.f0,Z ab x.f0.f1,Z ab x.f1.f0,Z ab x.f1.f1] 31)) (w.heap.size) #[Z ab s.nx,Z ab s.ny,Z ab s.cell,Z ab s.slot,Z ab s.slots,Z ab s.layers,Z ab s.most,.slice A7 s.bf.length c7,.slice A8 s.aC.length c8] 25:=(aa (aa Zh _) _)
 have m5:dW (((w.alloc (.cells #[Z ab s.nx,Z ab s.ny,Z ab s.cell,Z ab s.slot,Z ab s.slots,Z ab s.layers,Z ab s.most,.slice A7 s.bf.length c7,.slice A8 s.aC.length c8] 25)).alloc (.cells #[Z ab v.speed,Z ab v.bq,Z ab v.use.f0,Z ab v.use.f1,Z ab v.aV.f0,Z ab v.aV.f1,Z ab v.reserve] 29)).alloc (.cells #[Z ab x.f0.f0,Z ab x.f0.f1,Z ab x.f1.f0,Z ab x.f1.f1] 31)) (w.heap.size+1) #[Z ab v.speed,Z ab v.bq,Z ab v.use.f0,Z ab v.use.f1,Z ab v.aV.f0,Z ab v.aV.f1,Z ab v.reserve] 29:=(aa ac2 _)
 have m6:dW (((w.alloc (.cells #[Z ab s.nx,Z ab s.ny,Z ab s.cell,Z ab s.slot,Z ab s.slots,Z ab s.layers,Z ab s.most,.slice A7 s.bf.length c7,.slice A8 s.aC.length c8] 25)).alloc (.cells #[Z ab v.speed,Z ab v.bq,Z ab v.use.f0,Z ab v.use.f1,Z ab v.aV.f0,Z ab v.aV.f1,Z ab v.reserve] 29)).alloc (.cells #[Z ab x.f0.f0,Z ab x.f0.f1,Z ab x.f1.f0,Z ab x.f1.f1] 31)) (w.heap.size+1+1) #[Z ab x.f0.f0,Z ab x.f0.f1,Z ab x.f1.f0,Z ab x.f1.f1] 31:=ama
 have mB:Below w.heap.size w (((w.alloc (.cells #[Z ab s.nx,Z ab s.ny,Z ab s.cell,Z ab s.slot,Z ab s.slots,Z ab s.layers,Z ab s.most,.slice A7 s.bf.length c7,.slice A8 s.aC.length c8] 25)).alloc (.cells #[Z ab v.speed,Z ab v.bq,Z ab v.use.f0,Z ab v.use.f1,Z ab v.aV.f0,Z ab v.aV.f1,Z ab v.reserve] 29)).alloc (.cells #[Z ab x.f0.f0,Z ab x.f0.f1,Z ab x.f1.f0,Z ab x.f1.f1] 31)):=(aH (aH (aH (Below.refl w.heap.size w) _) _) _)
 have kZ:w.heap.size≤w.heap.size:=Nat.le_refl _
 generalize qQ:(((w.alloc (.cells #[Z ab s.nx,Z ab s.ny,Z ab s.cell,Z ab s.slot,Z ab s.slots,Z ab s.layers,Z ab s.most,.slice A7 s.bf.length c7,.slice A8 s.aC.length c8] 25)).alloc (.cells #[Z ab v.speed,Z ab v.bq,Z ab v.use.f0,Z ab v.use.f1,Z ab v.aV.f0,Z ab v.aV.f1,Z ab v.reserve] 29)).alloc (.cells #[Z ab x.f0.f0,Z ab x.f0.f1,Z ab x.f1.f0,Z ab x.f1.f1] 31)) = W1 at m4 m5 m6 mB ⊢
 clear qQ
 generalize hg4:w.heap.size = g4 at m4 m5 m6 ⊢
 have hG4:w.heap.size≤g4:=by omega
 generalize hg5:g4+1 = g5 at m5 m6 ⊢
 have VZ:g4≠g5:=by omega
 have apl:g5≠g4:=VZ.symm
 have hG5:w.heap.size≤g5:=by omega
 generalize hg6:g5+1 = g6 at m6 ⊢
 have VP:g4≠g6:=by omega
 have JA:g5≠g6:=by omega
 have ao6:g6≠g4:=VP.symm
 have ZT:g6≠g5:=JA.symm
 have hG6:w.heap.size≤g6:=by omega
 clear kZ
 try clear hg6
 try clear hg5
 try clear hg4
 have sD:w.heap.size≤W1.heap.size:=mB.size
 have hcon:=adZ s v A7 A8 c7 c8 W1 h7 (Kd.bz XC mB) h8 (Kd.bz Rx mB)
 (with_reducible refine hcon.mono ?_)
 clear hcon
 rintro e W2 ⟨ptr,rfl,hb,⟨h0,g,rfl,hg,hT⟩|⟨h0,rfl⟩⟩
 case inr =>
  have HZ:=Lib.hid (HE.out.trans (if_pos h0))
  replace mB:=bI mB hb
  clear hb HE
  have h00:=Lib.hid h0
  generalize hE_:lW s v = E0 at*
  have hE:=Lib.hid hE_
  clear hE_
  have hd:(E0 == 0) = false:=beq_eq_false_iff_ne.2 h0
  have hd2:(E0 != 0) = true:=by rw [bne,hd];rfl
  clear h0
  go_wp2
  go_ret2
  exact ⟨none,qi,mB,.inr ⟨by rw [hE.out];exact h00.out,rfl⟩⟩
 case inl =>
  have HZ:=Lib.hid (HE.out.trans (if_neg (fun h=>h h0)))
  clear HE
  have hg0:w.heap.size≤g:=Nat.le_trans (m:=W1.heap.size) (by assumption) hg
  replace m4:=ah m4 hb
  replace m5:=ah m5 hb
  replace m6:=ah m6 hb
  replace mB:=bI mB hb
  clear hb
  have H0:=Lib.hid h0
  rw [h0]
  clear h0
  have vI:w.heap.size≤W2.heap.size:=mB.size
  obtain ⟨ZY,ZZ,Z0,Z4⟩:=rY m6
  go_wp2_with fail
  clear ZY ZZ Z0 Z4
  have hcon:=Yo x t W2
  (with_reducible refine hcon.mono ?_)
  clear hcon
  rintro e W3 ⟨rfl,hb⟩
  replace hT:=hT.below hb
  replace m4:=ah m4 hb
  replace m5:=ah m5 hb
  replace m6:=ah m6 hb
  replace mB:=bI mB hb
  clear hb
  go_wp2
  go_ret2
  exact ⟨_,qi,mB,.inl ⟨H0.out,g,rfl,hg0,hT⟩⟩
theorem Af {a b:Int} (h:(if a≠0 then a else b) = 0):a = 0∧b = 0:=by
 by_cases h0:a = 0
 ·rw [if_neg (fun h=>h h0)] at h
  exact ⟨h0,h⟩
 ·rw [if_pos h0] at h
  exact absurd h h0
theorem at0 {W:ao} {b:Nat} {x y:Int} (h:W.heap[b]? = some (.cells #[Z ab x,Z ab y] 33 (0,0))):Kd.C yn W (some ⟨b,0,none⟩) 1 [⟨x,y⟩]:=by
 refine ⟨rfl,by decide,fun _=>⟨⟨b,0,none⟩,rfl,fun j p hj=>?_⟩⟩
 match j,hj with
 |0,hj =>
  obtain rfl:(⟨x,y⟩:gU) = p:=by simpa using hj
  refine ⟨_,rfl,aB6 W ⟨x,y⟩,fun i u hu=>?_⟩
  match i,hu with
  |0,hu=>exact ((ae h 0).trans (by simpa using hu))
  |1,hu=>exact ((ae h 1).trans (by simpa using hu))
theorem at1 {hd layer layers:Int} (hl:1≤layers) (h:Ct [⟨hd,layer⟩] layers = 0):(0≤hd∧hd≤8)∧0≤layer∧layer < layers:=by
 unfold Ct at h
 cases hb:([⟨hd,layer⟩]:List gU).all (FH layers) with
 |false=>rw [hb] at h;simp at h
 |true =>
  simp only [List.all_cons,List.all_nil,Bool.and_true,FH,Bool.and_eq_true,Bool.or_eq_true,decide_eq_true_eq,jg] at hb
  omega
theorem JH {x:iA} {t:Int} (h:oK x t = 0):vK x∧0≤t∧t≤1073741824:=by
 unfold oK at h
 obtain ⟨h1,h2⟩:=Af h
 refine ⟨atZ h1,?_⟩
 cases hb:nU t 0 1073741824 with
 |false=>rw [hb] at h2;simp at h2
 |true=>exact jg.1 hb
def V3 (s:lK) (v:nW) (x:iA) (t hd layer:Int):Int:=if oL s v x t≠0 then oL s v x t else if Ct [⟨hd,layer⟩] s.layers≠0 then Ct [⟨hd,layer⟩] s.layers else nY s v x t
def Je (s:lK) (v:nW) (x:iA) (t hd layer:Int):iA:=if V3 s v x t hd layer = 0 then mW s v x t hd layer else z31
theorem apm (s:lK) (v:nW) (x:iA) (t hd layer:Int) (A7 A8:Option Addr) (c7 c8:Nat) (w:ao) (h7:s.bf.length≤c7) (XC:Kd.C Kd.bool w A7 s.bf.length s.bf) (h8:s.aC.length≤c8) (Rx:Kd.C Dt w A8 s.aC.length s.aC):
 Calls Try.prog 20 #[.agg #[Z ab s.nx,Z ab s.ny,Z ab s.cell,Z ab s.slot,Z ab s.slots,Z ab s.layers,Z ab s.most,.slice A7 s.bf.length c7,.slice A8 s.aC.length c8],.agg #[Z ab v.speed,Z ab v.bq,Z ab v.use.f0,Z ab v.use.f1,Z ab v.aV.f0,Z ab v.aV.f1,Z ab v.reserve],.agg #[Z ab x.f0.f0,Z ab x.f0.f1,Z ab x.f1.f0,Z ab x.f1.f1],Z ab t,.agg #[Z ab hd,Z ab layer]] w (yw (.tuple #[.agg #[Z ab (Je s v x t hd layer).f0.f0,Z ab (Je s v x t hd layer).f0.f1,Z ab (Je s v x t hd layer).f1.f0,Z ab (Je s v x t hd layer).f1.f1],Z ab (V3 s v x t hd layer)]) w):=by
 have xS:=Try.underlying25
 have vo:=Try.underlying29
 have qj:=Try.underlying31
 have E9:=Try.underlying33
 have oO:=Try.underlying27
 have HE:Hid (V3 s v x t hd layer = if oL s v x t≠0 then oL s v x t else if Ct [⟨hd,layer⟩] s.layers≠0 then Ct [⟨hd,layer⟩] s.layers else nY s v x t):=Lib.hid rfl
 have HV:Hid (Je s v x t hd layer = if V3 s v x t hd layer = 0 then mW s v x t hd layer else z31):=Lib.hid rfl
 go_enter Try.func20,Try.ntmps20
 go_wp2_with fail
 have m5:dW (((((w.alloc (.cells #[Z ab s.nx,Z ab s.ny,Z ab s.cell,Z ab s.slot,Z ab s.slots,Z ab s.layers,Z ab s.most,.slice A7 s.bf.length c7,.slice A8 s.aC.length c8] 25)).alloc (.cells #[Z ab v.speed,Z ab v.bq,Z ab v.use.f0,Z ab v.use.f1,Z ab v.aV.f0,Z ab v.aV.f1,Z ab v.reserve] 29)).alloc (.cells #[Z ab x.f0.f0,Z ab x.f0.f1,Z ab x.f1.f0,Z ab x.f1.f1] 31)).alloc (.cells #[Z ab hd,Z ab layer] 33)).alloc (.cells #[Z ab 0,Z ab 0,Z ab 0,Z ab 0] 31)) (w.heap.size) #[Z ab s.nx,Z ab s.ny,Z ab s.cell,Z ab s.slot,Z ab s.slots,Z ab s.layers,Z ab s.most,.slice A7 s.bf.length c7,.slice A8 s.aC.length c8] 25:=(aa (aa (aa (aa Zh _) _) _) _)
 have m6:dW (((((w.alloc (.cells #[Z ab s.nx,Z ab s.ny,Z ab s.cell,Z ab s.slot,Z ab s.slots,Z ab s.layers,Z ab s.most,.slice A7 s.bf.length c7,.slice A8 s.aC.length c8] 25)).alloc (.cells #[Z ab v.speed,Z ab v.bq,Z ab v.use.f0,Z ab v.use.f1,Z ab v.aV.f0,Z ab v.aV.f1,Z ab v.reserve] 29)).alloc (.cells #[Z ab x.f0.f0,Z ab x.f0.f1,Z ab x.f1.f0,Z ab x.f1.f1] 31)).alloc (.cells #[Z ab hd,Z ab layer] 33)).alloc (.cells #[Z ab 0,Z ab 0,Z ab 0,Z ab 0] 31)) (w.heap.size+1) #[Z ab v.speed,Z ab v.bq,Z ab v.use.f0,Z ab v.use.f1,Z ab v.aV.f0,Z ab v.aV.f1,Z ab v.reserve] 29:=(aa (aa (aa ac2 _) _) _)
 have m7:dW (((((w.alloc (.cells #[Z ab s.nx,Z ab s.ny,Z ab s.cell,Z ab s.slot,Z ab s.slots,Z ab s.layers,Z ab s.most,.slice A7 s.bf.length c7,.slice A8 s.aC.length c8] 25)).alloc (.cells #[Z ab v.speed,Z ab v.bq,Z ab v.use.f0,Z ab v.use.f1,Z ab v.aV.f0,Z ab v.aV.f1,Z ab v.reserve] 29)).alloc (.cells #[Z ab x.f0.f0,Z ab x.f0.f1,Z ab x.f1.f0,Z ab x.f1.f1] 31)).alloc (.cells #[Z ab hd,Z ab layer] 33)).alloc (.cells #[Z ab 0,Z ab 0,Z ab 0,Z ab 0] 31)) (w.heap.size+1+1) #[Z ab x.f0.f0,Z ab x.f0.f1,Z ab x.f1.f0,Z ab x.f1.f1] 31:=(aa (aa ama _) _)
 have m9:dW (((((w.alloc (.cells #[Z ab s.nx,Z ab s.ny,Z ab s.cell,Z ab s.slot,Z ab s.slots,Z ab s.layers,Z ab s.most,.slice A7 s.bf.length c7,.slice A8 s.aC.length c8] 25)).alloc (.cells #[Z ab v.speed,Z ab v.bq,Z ab v.use.f0,Z ab v.use.f1,Z ab v.aV.f0,Z ab v.aV.f1,Z ab v.reserve] 29)).alloc (.cells #[Z ab x.f0.f0,Z ab x.f0.f1,Z ab x.f1.f0,Z ab x.f1.f1] 31)).alloc (.cells #[Z ab hd,Z ab layer] 33)).alloc (.cells #[Z ab 0,Z ab 0,Z ab 0,Z ab 0] 31)) (w.heap.size+1+1+1) #[Z ab hd,Z ab layer] 33:=(aa (by have h_:=eB (((w.alloc (.cells #[Z ab s.nx,Z ab s.ny,Z ab s.cell,Z ab s.slot,Z ab s.slots,Z ab s.layers,Z ab s.most,.slice A7 s.bf.length c7,.slice A8 s.aC.length c8] 25)).alloc (.cells #[Z ab v.speed,Z ab v.bq,Z ab v.use.f0,Z ab v.use.f1,Z ab v.aV.f0,Z ab v.aV.f1,Z ab v.reserve] 29)).alloc (.cells #[Z ab x.f0.f0,Z ab x.f0.f1,Z ab x.f1.f0,Z ab x.f1.f1] 31)) (.cells #[Z ab hd,Z ab layer] 33);first|exact h_|(simp only [World.size_alloc] at h_;exact h_)) _)
 have m10:dW (((((w.alloc (.cells #[Z ab s.nx,Z ab s.ny,Z ab s.cell,Z ab s.slot,Z ab s.slots,Z ab s.layers,Z ab s.most,.slice A7 s.bf.length c7,.slice A8 s.aC.length c8] 25)).alloc (.cells #[Z ab v.speed,Z ab v.bq,Z ab v.use.f0,Z ab v.use.f1,Z ab v.aV.f0,Z ab v.aV.f1,Z ab v.reserve] 29)).alloc (.cells #[Z ab x.f0.f0,Z ab x.f0.f1,Z ab x.f1.f0,Z ab x.f1.f1] 31)).alloc (.cells #[Z ab hd,Z ab layer] 33)).alloc (.cells #[Z ab 0,Z ab 0,Z ab 0,Z ab 0] 31)) (w.heap.size+1+1+1+1) #[Z ab 0,Z ab 0,Z ab 0,Z ab 0] 31:=(by have h_:=eB ((((w.alloc (.cells #[Z ab s.nx,Z ab s.ny,Z ab s.cell,Z ab s.slot,Z ab s.slots,Z ab s.layers,Z ab s.most,.slice A7 s.bf.length c7,.slice A8 s.aC.length c8] 25)).alloc (.cells #[Z ab v.speed,Z ab v.bq,Z ab v.use.f0,Z ab v.use.f1,Z ab v.aV.f0,Z ab v.aV.f1,Z ab v.reserve] 29)).alloc (.cells #[Z ab x.f0.f0,Z ab x.f0.f1,Z ab x.f1.f0,Z ab x.f1.f1] 31)).alloc (.cells #[Z ab hd,Z ab layer] 33)) (.cells #[Z ab 0,Z ab 0,Z ab 0,Z ab 0] 31);first|exact h_|(simp only [World.size_alloc] at h_;exact h_))
 have mB:Below w.heap.size w (((((w.alloc (.cells #[Z ab s.nx,Z ab s.ny,Z ab s.cell,Z ab s.slot,Z ab s.slots,Z ab s.layers,Z ab s.most,.slice A7 s.bf.length c7,.slice A8 s.aC.length c8] 25)).alloc (.cells #[Z ab v.speed,Z ab v.bq,Z ab v.use.f0,Z ab v.use.f1,Z ab v.aV.f0,Z ab v.aV.f1,Z ab v.reserve] 29)).alloc (.cells #[Z ab x.f0.f0,Z ab x.f0.f1,Z ab x.f1.f0,Z ab x.f1.f1] 31)).alloc (.cells #[Z ab hd,Z ab layer] 33)).alloc (.cells #[Z ab 0,Z ab 0,Z ab 0,Z ab 0] 31)):=(aH (aH (aH (aH (aH (Below.refl w.heap.size w) _) _) _) _) _)
 have kZ:w.heap.size≤w.heap.size:=Nat.le_refl _
 generalize qQ:(((((w.alloc (.cells #[Z ab s.nx,Z ab s.ny,Z ab s.cell,Z ab s.slot,Z ab s.slots,Z ab s.layers,Z ab s.most,.slice A7 s.bf.length c7,.slice A8 s.aC.length c8] 25)).alloc (.cells #[Z ab v.speed,Z ab v.bq,Z ab v.use.f0,Z ab v.use.f1,Z ab v.aV.f0,Z ab v.aV.f1,Z ab v.reserve] 29)).alloc (.cells #[Z ab x.f0.f0,Z ab x.f0.f1,Z ab x.f1.f0,Z ab x.f1.f1] 31)).alloc (.cells #[Z ab hd,Z ab layer] 33)).alloc (.cells #[Z ab 0,Z ab 0,Z ab 0,Z ab 0] 31)) = W1 at m5 m6 m7 m9 m10 mB ⊢
 clear qQ
 generalize hg5:w.heap.size = g5 at m5 m6 m7 m9 m10 ⊢
 have hG5:w.heap.size≤g5:=by omega
 generalize hg6:g5+1 = g6 at m6 m7 m9 m10 ⊢
 have JA:g5≠g6:=by omega
 have ZT:g6≠g5:=JA.symm
 have hG6:w.heap.size≤g6:=by omega
 generalize hg7:g6+1 = g7 at m7 m9 m10 ⊢
 have VB:g5≠g7:=by omega
 have agH:g6≠g7:=by omega
 have aoO:g7≠g5:=VB.symm
 have aCJ:g7≠g6:=agH.symm
 have hG7:w.heap.size≤g7:=by omega
 generalize hg9:g7+1 = g9 at m9 m10 ⊢
 have agy:g5≠g9:=by omega
 have VQ:g6≠g9:=by omega
 have yA:g7≠g9:=by omega
 have aCn:g9≠g5:=agy.symm
 have ao8:g9≠g6:=VQ.symm
 have MO:g9≠g7:=yA.symm
 have hG9:w.heap.size≤g9:=by omega
 generalize agD:g9+1 = g10 at m10 ⊢
 have pF:g5≠g10:=by omega
 have pG:g6≠g10:=by omega
 have Og:g7≠g10:=by omega
 have Z7:g9≠g10:=by omega
 have ZU:g10≠g5:=pF.symm
 have ZV:g10≠g6:=pG.symm
 have aiX:g10≠g7:=Og.symm
 have atT:g10≠g9:=Z7.symm
 have qU:w.heap.size≤g10:=by omega
 clear kZ
 try clear agD
 try clear hg9
 try clear hg7
 try clear hg6
 try clear hg5
 have sD:w.heap.size≤W1.heap.size:=mB.size
 have hbg:oL s v x t = if lW s v≠0 then lW s v else oK x t:=rfl
 have HBG:=Lib.hid hbg
 clear hbg
 have hcon:=Yp s v x t A7 A8 c7 c8 W1 h7 (Kd.bz XC mB) h8 (Kd.bz Rx mB)
 (with_reducible refine hcon.mono ?_)
 clear hcon
 rintro e W2 ⟨ptr,rfl,hb,hpt⟩
 replace m5:=ah m5 hb
 replace m6:=ah m6 hb
 replace m7:=ah m7 hb
 replace m9:=ah m9 hb
 replace m10:=ah m10 hb
 replace mB:=bI mB hb
 clear hb
 have vI:w.heap.size≤W2.heap.size:=mB.size
 generalize hE_:oL s v x t = E0 at*
 have HE0:=Lib.hid hE_
 clear hE_
 by_cases h0:E0 = 0
 case neg =>
  have HZ:Hid (V3 s v x t hd layer = E0):=Lib.hid (HE.out.trans (if_pos h0))
  have HV2:Hid (Je s v x t hd layer = z31):=Lib.hid (HV.out.trans (if_neg (by rw [HZ.out];exact h0)))
  clear HV
  have hd1:(E0 == 0) = false:=beq_eq_false_iff_ne.2 h0
  have hd2:(E0 != 0) = true:=by rw [bne,hd1];rfl
  clear h0 hpt HE
  obtain ⟨NZ,N7,N8,N9,adJ,adK,adL,adM⟩:=jA m10
  go_wp2
  exact bodyPost_ret (nN rfl _ _ g10 31 #[Z ab 0,Z ab 0,Z ab 0,Z ab 0] (0,0) _ rfl (aK (aK (aK (aK m10 0 (Z ab 0) rfl) 1 (Z ab 0) rfl) 2 (Z ab 0) rfl) 3 (Z ab 0) rfl) Try.underlying31 rfl aT) rfl ⟨age,(Below.setCell (p:=⟨g10,3,none⟩) (Below.setCell (p:=⟨g10,2,none⟩) (Below.setCell (p:=⟨g10,1,none⟩) (Below.setCell (p:=⟨g10,0,none⟩) mB qU _) qU _) qU _) qU _)⟩
 case pos =>
  have HE2:=Lib.hid (HE.out.trans (if_neg (fun h=>h h0)))
  clear HE
  have hb0:=HBG.out.symm.trans h0
  obtain ⟨ht0,hp0⟩:=Af hb0
  obtain ⟨hbx,XK,aaa⟩:=JH hp0
  obtain ⟨hSV,hVN⟩:=JG ht0
  rcases hpt with ⟨_,g,rfl,hg,hT⟩|⟨hbad,_⟩
  case inr=>exact absurd ht0 hbad
  case inl =>
   subst h0
   clear hb0 ht0 hp0 HBG
   obtain ⟨Jy,Jz⟩:=Ch m9
   have R4:∀ o_,(W2.alloc o_).cell? ⟨g5,0,none⟩ = some (Z ab s.nx):=fun o_=>(ae (aa m5 o_) 0).trans rfl
   have VE:∀ o_,(W2.alloc o_).cell? ⟨g5,1,none⟩ = some (Z ab s.ny):=fun o_=>(ae (aa m5 o_) 1).trans rfl
   have apa:∀ o_,(W2.alloc o_).cell? ⟨g5,2,none⟩ = some (Z ab s.cell):=fun o_=>(ae (aa m5 o_) 2).trans rfl
   have apb:∀ o_,(W2.alloc o_).cell? ⟨g5,3,none⟩ = some (Z ab s.slot):=fun o_=>(ae (aa m5 o_) 3).trans rfl
   have aW6:∀ o_,(W2.alloc o_).cell? ⟨g5,4,none⟩ = some (Z ab s.slots):=fun o_=>(ae (aa m5 o_) 4).trans rfl
   have aW7:∀ o_,(W2.alloc o_).cell? ⟨g5,5,none⟩ = some (Z ab s.layers):=fun o_=>(ae (aa m5 o_) 5).trans rfl
   have aW8:∀ o_,(W2.alloc o_).cell? ⟨g5,6,none⟩ = some (Z ab s.most):=fun o_=>(ae (aa m5 o_) 6).trans rfl
   have aW9:∀ o_,(W2.alloc o_).cell? ⟨g5,7,none⟩ = some (.slice A7 s.bf.length c7):=fun o_=>(ae (aa m5 o_) 7).trans rfl
   have aXa:∀ o_,(W2.alloc o_).cell? ⟨g5,8,none⟩ = some (.slice A8 s.aC.length c8):=fun o_=>(ae (aa m5 o_) 8).trans rfl
   go_wp2_with fail
   clear R4 VE apa apb aW6 aW7 aW8 aW9 aXa Jy Jz
   replace hT:=hT.below (aH (Below.refl _ W2) (.cells #[Z ab hd,Z ab layer] 33))
   have Qk:=bO m5
   have ZW:=bO m6
   have VC:=bO m7
   have agO:=bO m9
   have VK:=bO m10
   have mc:dW (W2.alloc (.cells #[Z ab hd,Z ab layer] 33)) (W2.heap.size) #[Z ab hd,Z ab layer] 33:=(by have h_:=eB W2 (.cells #[Z ab hd,Z ab layer] 33);first|exact h_|(simp only [World.size_alloc] at h_;exact h_))
   replace m5:dW (W2.alloc (.cells #[Z ab hd,Z ab layer] 33)) g5 #[Z ab s.nx,Z ab s.ny,Z ab s.cell,Z ab s.slot,Z ab s.slots,Z ab s.layers,Z ab s.most,.slice A7 s.bf.length c7,.slice A8 s.aC.length c8] 25:=(aa m5 _)
   replace m6:dW (W2.alloc (.cells #[Z ab hd,Z ab layer] 33)) g6 #[Z ab v.speed,Z ab v.bq,Z ab v.use.f0,Z ab v.use.f1,Z ab v.aV.f0,Z ab v.aV.f1,Z ab v.reserve] 29:=(aa m6 _)
   replace m7:dW (W2.alloc (.cells #[Z ab hd,Z ab layer] 33)) g7 #[Z ab x.f0.f0,Z ab x.f0.f1,Z ab x.f1.f0,Z ab x.f1.f1] 31:=(aa m7 _)
   replace m9:dW (W2.alloc (.cells #[Z ab hd,Z ab layer] 33)) g9 #[Z ab hd,Z ab layer] 33:=(aa m9 _)
   replace m10:dW (W2.alloc (.cells #[Z ab hd,Z ab layer] 33)) g10 #[Z ab 0,Z ab 0,Z ab 0,Z ab 0] 31:=(aa m10 _)
   replace mB:Below w.heap.size w (W2.alloc (.cells #[Z ab hd,Z ab layer] 33)):=(aH mB _)
   have kZ:w.heap.size≤W2.heap.size:=vI
   generalize qQ:(W2.alloc (.cells #[Z ab hd,Z ab layer] 33)) = W3 at m5 m6 m7 m9 m10 mc mB hT ⊢
   clear qQ
   generalize hgc:W2.heap.size = gc at mc ⊢
   have aCN:g5≠gc:=by omega
   have aCO:g6≠gc:=by omega
   have aCP:g7≠gc:=by omega
   have aCQ:g9≠gc:=by omega
   have at5:g10≠gc:=by omega
   have aXb:gc≠g5:=aCN.symm
   have aXc:gc≠g6:=aCO.symm
   have aXd:gc≠g7:=aCP.symm
   have aXe:gc≠g9:=aCQ.symm
   have aNb:gc≠g10:=at5.symm
   have hGc:w.heap.size≤gc:=by omega
   clear kZ Qk ZW VC agO VK
   try clear hgc
   have FB:w.heap.size≤W3.heap.size:=mB.size
   have hcon:=aiZ (some ⟨gc,0,none⟩) 1 [⟨hd,layer⟩] s.layers W3 (at0 mc) (Nat.le_refl 1)
   dsimp only [List.length_cons,List.length_nil,Nat.zero_add] at hcon
   (with_reducible refine hcon.mono ?_)
   clear hcon
   rintro e W4 ⟨rfl,hb⟩
   replace hT:=hT.below hb
   replace m5:=ah m5 hb
   replace m6:=ah m6 hb
   replace m7:=ah m7 hb
   replace m9:=ah m9 hb
   replace m10:=ah m10 hb
   replace mc:=ah mc hb
   replace mB:=bI mB hb
   clear hb
   have Vz:w.heap.size≤W4.heap.size:=mB.size
   have hc1:=at1 (hd:=hd) (layer:=layer) hSV.n.layers.1
   generalize Ct [⟨hd,layer⟩] s.layers = E1 at*
   by_cases h1:E1 = 0
   case neg =>
    have HZ:Hid (V3 s v x t hd layer = E1):=Lib.hid (HE2.out.trans (if_pos h1))
    have HV2:Hid (Je s v x t hd layer = z31):=Lib.hid (HV.out.trans (if_neg (by rw [HZ.out];exact h1)))
    clear HV
    have hd1:(E1 == 0) = false:=beq_eq_false_iff_ne.2 h1
    have hd2:(E1 != 0) = true:=by rw [bne,hd1];rfl
    clear h1 hc1 HE2
    obtain ⟨NZ,N7,N8,N9,adJ,adK,adL,adM⟩:=jA m10
    go_wp2
    exact bodyPost_ret (nN rfl _ _ g10 31 #[Z ab 0,Z ab 0,Z ab 0,Z ab 0] (0,0) _ rfl (aK (aK (aK (aK m10 0 (Z ab 0) rfl) 1 (Z ab 0) rfl) 2 (Z ab 0) rfl) 3 (Z ab 0) rfl) Try.underlying31 rfl aT) rfl ⟨age,(Below.setCell (p:=⟨g10,3,none⟩) (Below.setCell (p:=⟨g10,2,none⟩) (Below.setCell (p:=⟨g10,1,none⟩) (Below.setCell (p:=⟨g10,0,none⟩) mB qU _) qU _) qU _) qU _)⟩
   case pos =>
    obtain ⟨⟨hh0,hh1⟩,hl0,hl1⟩:=hc1 h1
    have HE3:=Lib.hid (HE2.out.trans (if_neg (fun h=>h h1)))
    clear HE2 hc1
    subst h1
    obtain ⟨Qo,Qp,V4,V5⟩:=rY m7
    obtain ⟨Jy,Jz⟩:=Ch m9
    go_wp2_with fail
    clear Qo Qp V4 V5 Jy Jz
    have hcon:=VV g s v x t hd layer W4 hT hSV hVN hbx XK (by omega) hh0 hh1 hl0 hl1
    (with_reducible refine hcon.mono ?_)
    clear hcon
    rintro e W5 ⟨rfl,hb⟩
    replace m5:=ah m5 hb
    replace m6:=ah m6 hb
    replace m7:=ah m7 hb
    replace m9:=ah m9 hb
    replace m10:=ah m10 hb
    replace mc:=ah mc hb
    replace mB:=bI mB hb
    clear hb
    have VA:w.heap.size≤W5.heap.size:=mB.size
    have HV2:Hid (Je s v x t hd layer = mW s v x t hd layer):=Lib.hid (by rw [HV.out,HE3.out];by_cases hz:nY s v x t = 0;exact if_pos hz;rw [if_neg hz];unfold mW;rw [if_neg hz])
    clear HV
    generalize mW s v x t hd layer = Y at*
    obtain ⟨NZ,N7,N8,N9,adJ,adK,adL,adM⟩:=jA m10
    go_wp2
    exact bodyPost_ret (nN rfl _ _ g10 31 #[Z ab Y.f0.f0,Z ab Y.f0.f1,Z ab Y.f1.f0,Z ab Y.f1.f1] (0,0) _ rfl (aK (aK (aK (aK m10 0 (Z ab Y.f0.f0) rfl) 1 (Z ab Y.f0.f1) rfl) 2 (Z ab Y.f1.f0) rfl) 3 (Z ab Y.f1.f1) rfl) Try.underlying31 rfl aT) rfl ⟨by rw [HV2.out,HE3.out];rfl,(Below.setCell (p:=⟨g10,3,none⟩) (Below.setCell (p:=⟨g10,2,none⟩) (Below.setCell (p:=⟨g10,1,none⟩) (Below.setCell (p:=⟨g10,0,none⟩) mB qU _) qU _) qU _) qU _)⟩
end Go.Proofs.Ytmhaiihjfgfaoaa.Gl
end
section
namespace Go.Proofs.Ytmhaiihjfgfaoaa.Pr
open Go.RowKit Go.Proofs.YtmhaiihjfgfaoaaW.bu Go.Proofs.YtmhaiihjfgfaoaaW.dB Go.Proofs.YtmhaiihjfgfaoaaW.ek Go.Proofs.Ytmhaiihjfgfaoaa.Gl
def pJ.f (ai:Int) (aj:Int) (az:Int) (aA:Int) (aI:Int) (aD:Int) (aJ:Int) (aX:List Bool) (aG:List (qK)) (aQ:Int) (aN:Int) (bC:Int) (bD:Int) (bU:Int) (bV:Int) (bW:Int) (cO:Int) (cZ:Int) (dh:Int) (di:Int) (a3:Int) (fE:Int) (eZ:Int):Option (Int × Int × Int × Int × Int):=some ((Je ⟨ai,aj,az,aA,aI,aD,aJ,aX,aG⟩ ⟨aQ,aN,⟨bC,bD⟩,⟨bU,bV⟩,bW⟩ ⟨⟨cO,cZ⟩,⟨dh,di⟩⟩ a3 fE eZ).f0.f0,(Je ⟨ai,aj,az,aA,aI,aD,aJ,aX,aG⟩ ⟨aQ,aN,⟨bC,bD⟩,⟨bU,bV⟩,bW⟩ ⟨⟨cO,cZ⟩,⟨dh,di⟩⟩ a3 fE eZ).f0.f1,(Je ⟨ai,aj,az,aA,aI,aD,aJ,aX,aG⟩ ⟨aQ,aN,⟨bC,bD⟩,⟨bU,bV⟩,bW⟩ ⟨⟨cO,cZ⟩,⟨dh,di⟩⟩ a3 fE eZ).f1.f0,(Je ⟨ai,aj,az,aA,aI,aD,aJ,aX,aG⟩ ⟨aQ,aN,⟨bC,bD⟩,⟨bU,bV⟩,bW⟩ ⟨⟨cO,cZ⟩,⟨dh,di⟩⟩ a3 fE eZ).f1.f1,V3 ⟨ai,aj,az,aA,aI,aD,aJ,aX,aG⟩ ⟨aQ,aN,⟨bC,bD⟩,⟨bU,bV⟩,bW⟩ ⟨⟨cO,cZ⟩,⟨dh,di⟩⟩ a3 fE eZ)
theorem pJ.calls (ai:Int) (aj:Int) (az:Int) (aA:Int) (aI:Int) (aD:Int) (aJ:Int) (dY:Option Addr) (dS:Nat) (aX:List Bool) (dV:Option Addr) (dU:Nat) (aG:List (qK)) (aQ:Int) (aN:Int) (bC:Int) (bD:Int) (bU:Int) (bV:Int) (bW:Int) (cO:Int) (cZ:Int) (dh:Int) (di:Int) (a3:Int) (fE:Int) (eZ:Int) (r1:Int) (r2:Int) (r3:Int) (r4:Int) (r5:Int) (w:ao) (jC:Kd.C Kd.bool w dY aX.length aX) (jD:aX.length≤dS) (jE:Kd.C Dt w dV aG.length aG) (jF:aG.length≤dU) (h:pJ.f ai aj az aA aI aD aJ aX aG aQ aN bC bD bU bV bW cO cZ dh di a3 fE eZ = some (r1,r2,r3,r4,r5)):
 Calls Try.prog 20 #[.agg #[Z ab ai,Z ab aj,Z ab az,Z ab aA,Z ab aI,Z ab aD,Z ab aJ,.slice dY aX.length dS,.slice dV aG.length dU],.agg #[Z ab aQ,Z ab aN,Z ab bC,Z ab bD,Z ab bU,Z ab bV,Z ab bW],.agg #[Z ab cO,Z ab cZ,Z ab dh,Z ab di],Z ab a3,.agg #[Z ab fE,Z ab eZ]] w fun e w'=>e = .returned (.tuple #[.agg #[Z ab r1,Z ab r2,Z ab r3,Z ab r4],Z ab r5])∧Below w.heap.size w w':=by
 cases h
 exact apm ⟨ai,aj,az,aA,aI,aD,aJ,aX,aG⟩ ⟨aQ,aN,⟨bC,bD⟩,⟨bU,bV⟩,bW⟩ ⟨⟨cO,cZ⟩,⟨dh,di⟩⟩ a3 fE eZ dY dV dS dU w jD jC jF jE
end Go.Proofs.Ytmhaiihjfgfaoaa.Pr
end
section
namespace Go.Proofs.Ytmhaiihjfgfaoaa.Pr
open Go.RowKit Go.Proofs.YtmhaiihjfgfaoaaW.bu Go.Proofs.YtmhaiihjfgfaoaaW.dB Go.Proofs.YtmhaiihjfgfaoaaW.ek
attribute [local go_sem] iq iw jq jr iy
attribute [local go_sem high] azD
def bS.f (k:Nat):Option (Bool):=(df.f k).bind fun lG=>((mM.f 2000 2000).bind fun EC=>((pJ.f lG.1 lG.2.1 lG.2.2.1 lG.2.2.2.1 lG.2.2.2.2.1 lG.2.2.2.2.2.1 lG.2.2.2.2.2.2.1 lG.2.2.2.2.2.2.2.1 lG.2.2.2.2.2.2.2.2.1 lG.2.2.2.2.2.2.2.2.2.1 lG.2.2.2.2.2.2.2.2.2.2.1 lG.2.2.2.2.2.2.2.2.2.2.2.1 lG.2.2.2.2.2.2.2.2.2.2.2.2.1 lG.2.2.2.2.2.2.2.2.2.2.2.2.2.1 lG.2.2.2.2.2.2.2.2.2.2.2.2.2.2.1 lG.2.2.2.2.2.2.2.2.2.2.2.2.2.2.2 EC.1 EC.2.1 EC.2.2.1 EC.2.2.2 0 2 0).bind fun sH=>((kL.f k lG.2.2.2.2.2.2.2.2.2.1 lG.2.2.2.2.2.2.2.2.2.2.1 lG.2.2.2.2.2.2.2.2.2.2.2.1 lG.2.2.2.2.2.2.2.2.2.2.2.2.1 lG.2.2.2.2.2.2.2.2.2.2.2.2.2.1 lG.2.2.2.2.2.2.2.2.2.2.2.2.2.2.1 lG.2.2.2.2.2.2.2.2.2.2.2.2.2.2.2 300 310).bind fun ED=>(if (an (sH.2.2.2.2+ED.2)) = 0 then (if ED.1 = 3 then (some ((sH.1 == 2200 && (sH.2.1 == 2400)) && ((sH.2.2.1 == 2000 && (sH.2.2.2.1 == 2000))))) else (some false)) else (some false)))))
theorem bS.mono:∀ k,oV (bS.f k) (bS.f (k+1)):=by
 intro k
 unfold bS.f
 repeat' first
  |(with_reducible exact kL.mono _ _ _ _ _ _ _ _ _ _)
  |(with_reducible exact df.mono _)
  |(with_reducible exact oV.refl _)
  |(with_reducible exact oV.none _)
  |(with_reducible refine oV.ite ?_ ?_)
  |(with_reducible refine oV.bind ?_ (fun _=>?_))
  |exact kL.mono _ _ _ _ _ _ _ _ _ _
  |exact df.mono _
  |exact oV.none _
  |refine oV.ite ?_ ?_
  |refine oV.bind ?_ (fun _=>?_)
def bS.T2:Bool × List (List Nat × List Nat):=(true,[([],[]),([],[]),([],[]),([],[]),([0,1,2,3,2],[0,1,2,3]),([4],[4]),([5],[5]),([5],[5]),([],[]),([8,6,4,0,1,2,3,4,5,6,8],[6,8]),([7,9,0,1,2,3,4,5,6,7,8,9],[7])])
def bS.B2:List Nat:=[0,0,0,0,15,31,63,63,0,383,1023]
theorem bS.apn:rX .any (opsOf Try.f19 2) = bS.T2:=by kernel_rfl
theorem bS.ad8:oF bS.T2.2 bS.B2 = true:=by kernel_rfl
theorem bS.azY:bS.f 60 = some true:=by kernel_rfl
theorem bS.calls (k:Nat) (r:Bool) (w:ao) (h:bS.f k = some r):
 Calls Try.prog 19 #[] w fun e w'=>e = .returned (.bool r)∧Below w.heap.size w w':=by
 have hr_:af (r = true):=⟨bh ((PT bS.mono (Nat.le_max_left k 60) h).symm.trans (PT bS.mono (Nat.le_max_right k 60) bS.azY))⟩
 have xS:=Try.underlying25
 have vo:=Try.underlying29
 have E9:=Try.underlying33
 have qj:=Try.underlying31
 have oO:=Try.underlying27
 have HB:=af.mk (Below.refl w.heap.size w)
 have H:((df.f k).bind fun lG=>((mM.f 2000 2000).bind fun EC=>((pJ.f lG.1 lG.2.1 lG.2.2.1 lG.2.2.2.1 lG.2.2.2.2.1 lG.2.2.2.2.2.1 lG.2.2.2.2.2.2.1 lG.2.2.2.2.2.2.2.1 lG.2.2.2.2.2.2.2.2.1 lG.2.2.2.2.2.2.2.2.2.1 lG.2.2.2.2.2.2.2.2.2.2.1 lG.2.2.2.2.2.2.2.2.2.2.2.1 lG.2.2.2.2.2.2.2.2.2.2.2.2.1 lG.2.2.2.2.2.2.2.2.2.2.2.2.2.1 lG.2.2.2.2.2.2.2.2.2.2.2.2.2.2.1 lG.2.2.2.2.2.2.2.2.2.2.2.2.2.2.2 EC.1 EC.2.1 EC.2.2.1 EC.2.2.2 0 2 0).bind fun sH=>((kL.f k lG.2.2.2.2.2.2.2.2.2.1 lG.2.2.2.2.2.2.2.2.2.2.1 lG.2.2.2.2.2.2.2.2.2.2.2.1 lG.2.2.2.2.2.2.2.2.2.2.2.2.1 lG.2.2.2.2.2.2.2.2.2.2.2.2.2.1 lG.2.2.2.2.2.2.2.2.2.2.2.2.2.2.1 lG.2.2.2.2.2.2.2.2.2.2.2.2.2.2.2 300 310).bind fun ED=>(if (an (sH.2.2.2.2+ED.2)) = 0 then (if ED.1 = 3 then (some ((sH.1 == 2200 && (sH.2.1 == 2400)) && ((sH.2.2.1 == 2000 && (sH.2.2.2.1 == 2000))))) else (some false)) else (some false)))))) = some r:=h
 clear h
 replace H:=Option.bind_eq_some_iff.mp H
 obtain ⟨⟨vD,wm,xc,xV,yF,Ag,AB,wo,xe,uj,uz,uE,vE,wu,xg,xW⟩,Rs,H⟩:=H
 replace H:((mM.f 2000 2000).bind fun EC=>((pJ.f vD wm xc xV yF Ag AB wo xe uj uz uE vE wu xg xW EC.1 EC.2.1 EC.2.2.1 EC.2.2.2 0 2 0).bind fun sH=>((kL.f k uj uz uE vE wu xg xW 300 310).bind fun ED=>(if (an (sH.2.2.2.2+ED.2)) = 0 then (if ED.1 = 3 then (some ((sH.1 == 2200 && (sH.2.1 == 2400)) && ((sH.2.2.1 == 2000 && (sH.2.2.2.1 == 2000))))) else (some false)) else (some false))))) = some r:=H
 have A1:=af.mk Rs
 clear Rs
 replace H:=Option.bind_eq_some_iff.mp H
 obtain ⟨⟨XL,XM,XN,XO⟩,Yg,H⟩:=H
 replace H:((pJ.f vD wm xc xV yF Ag AB wo xe uj uz uE vE wu xg xW XL XM XN XO 0 2 0).bind fun sH=>((kL.f k uj uz uE vE wu xg xW 300 310).bind fun ED=>(if (an (sH.2.2.2.2+ED.2)) = 0 then (if ED.1 = 3 then (some ((sH.1 == 2200 && (sH.2.1 == 2400)) && ((sH.2.2.1 == 2000 && (sH.2.2.2.1 == 2000))))) else (some false)) else (some false)))) = some r:=H
 have A2:=af.mk Yg
 clear Yg
 replace H:=Option.bind_eq_some_iff.mp H
 obtain ⟨⟨Oj,Qr,R8,V6,Qs⟩,PS,H⟩:=H
 replace H:((kL.f k uj uz uE vE wu xg xW 300 310).bind fun ED=>(if (an (Qs+ED.2)) = 0 then (if ED.1 = 3 then (some ((Oj == 2200 && (Qr == 2400)) && ((R8 == 2000 && (V6 == 2000))))) else (some false)) else (some false))) = some r:=H
 have A3:=af.mk PS
 clear PS
 replace H:=Option.bind_eq_some_iff.mp H
 obtain ⟨⟨agP,agQ⟩,ME,H⟩:=H
 replace H:(if (an (Qs+agQ)) = 0 then (if agP = 3 then (some ((Oj == 2200 && (Qr == 2400)) && ((R8 == 2000 && (V6 == 2000))))) else (some false)) else (some false)) = some r:=H
 have A4:=af.mk ME
 clear ME
 by_cases c5:(an (Qs+agQ)) = 0
 ·rw [if_pos c5] at H
  have yt:((an (Qs+agQ)) == 0) = true:=beq_iff_eq.mpr c5
  have amd:((an (Qs+agQ)) != 0) = false:=bne_eq_false_iff_eq.mpr c5
  clear c5
  by_cases c6:agP = 3
  ·rw [if_pos c6] at H
   have Du:(agP == 3) = true:=beq_iff_eq.mpr c6
   have aXf:(agP != 3) = false:=bne_eq_false_iff_eq.mpr c6
   clear c6
   obtain rfl:=bh H
   go_enter Try.func19,Try.ntmps19
   try go_wp2_with (first|((with_reducible refine aU (f:=61) rfl ?_);refine dn (some 8) rfl rfl Try.func61 aT rfl #[] rfl jB ?_;(with_reducible refine (df.calls k vD wm xc xV yF Ag AB wo xe uj uz uE vE wu xg xW _ A1.out).mono ?_);rintro e w7 ⟨a5p,a5q,rfl,ho0,ho1,hb⟩;refine ⟨_,rfl,?_⟩;have nk:=af.mk (Kd.kv ho0 (fM gp));have nu:=af.mk (Kd.kv ho1 (fM gp));replace HB:=dz HB hb;(try clear hb);(try clear hb2);(try clear hk);(try clear hi);(try clear ho0);(try clear ho1))|((with_reducible refine av (N:=1) rfl ?_);refine ak (by rfl) (N:=1) (by rfl) (cs:=#[Z ab 0,Z ab 0,Z ab 0,Z ab 0,Z ab 0,Z ab 0,Z ab 0,.slice none 0 0,.slice none 0 0]) (t:=25) fU ?_;intro eU hg w8 ay hb;have kU:=af.mk (ay);have a0E:=bY HB hg;have a0F:=bY HB hg;replace nk:=wh nk hb;replace nu:=wh nu hb;replace HB:=dz HB hb;clear hb ay hg)|((with_reducible refine av (N:=2) rfl ?_);refine ak (by rfl) (N:=2) (by rfl) (cs:=#[Z ab 0,Z ab 0,Z ab 0,Z ab 0,Z ab 0,Z ab 0,Z ab 0]) (t:=29) fU ?_;intro gz hg w9 ay hb;have lL:=af.mk (ay);have a0G:=bY HB hg;have a0H:=bY HB hg;have vL:=fG kU hg;have q9:=fH kU hg;replace nk:=wh nk hb;replace nu:=wh nu hb;replace kU:=bn kU hb;replace HB:=dz HB hb;clear hb ay hg;have adD:=vL.out;have adE:=q9.out;obtain ⟨uf,ug,wV,wW,BI,BJ,Hy,SI,SK,uh,ui,wX,wY,BK,BL,Hz,SL,SN⟩:=jS kU.out;obtain ⟨Fa,Fb,aXg⟩:=Kd.lM nk.out;subst aXg;obtain ⟨FJ,FL,aXh⟩:=Kd.lM nu.out;subst aXh;obtain ⟨AY,AZ,KW,KX,at6,at7,aua,Ba,Bb,KY,KZ,aub,auc,aud⟩:=kz lL.out))
   have vv:af (Kd.R Kd.bool 4 ((((((((((((((((w9.setCell ⟨eU,0,none⟩ (Z ab vD)).setCell ⟨eU,1,none⟩ (Z ab wm)).setCell ⟨eU,2,none⟩ (Z ab xc)).setCell ⟨eU,3,none⟩ (Z ab xV)).setCell ⟨eU,4,none⟩ (Z ab yF)).setCell ⟨eU,5,none⟩ (Z ab Ag)).setCell ⟨eU,6,none⟩ (Z ab AB)).setCell ⟨eU,7,none⟩ (.slice Fa wo.length Fb)).setCell ⟨eU,8,none⟩ (.slice FJ xe.length FL)).setCell ⟨gz,0,none⟩ (Z ab uj)).setCell ⟨gz,1,none⟩ (Z ab uz)).setCell ⟨gz,2,none⟩ (Z ab uE)).setCell ⟨gz,3,none⟩ (Z ab vE)).setCell ⟨gz,4,none⟩ (Z ab wu)).setCell ⟨gz,5,none⟩ (Z ab xg)).setCell ⟨gz,6,none⟩ (Z ab xW)) w.heap.size (fun _=>True) (.slice Fa wo.length Fb) wo):=⟨by (with_reducible repeat (first|apply Kd.ky|apply Kd.jY|apply Kd.jP));exact Kd.jX (Kd.fu (p:=⟨gz,6,none⟩) (Kd.fu (p:=⟨gz,5,none⟩) (Kd.fu (p:=⟨gz,4,none⟩) (Kd.fu (p:=⟨gz,3,none⟩) (Kd.fu (p:=⟨gz,2,none⟩) (Kd.fu (p:=⟨gz,1,none⟩) (Kd.fu (p:=⟨gz,0,none⟩) (Kd.fu (p:=⟨eU,8,none⟩) (Kd.fu (p:=⟨eU,7,none⟩) (Kd.fu (p:=⟨eU,6,none⟩) (Kd.fu (p:=⟨eU,5,none⟩) (Kd.fu (p:=⟨eU,4,none⟩) (Kd.fu (p:=⟨eU,3,none⟩) (Kd.fu (p:=⟨eU,2,none⟩) (Kd.fu (p:=⟨eU,1,none⟩) (Kd.fu (p:=⟨eU,0,none⟩) (Kd.sO (Kd.sO nk.out kU.out (by decide)) lL.out (by decide)) (fun _ hk=>hk.1.2) (Z ab vD)) (fun _ hk=>hk.1.2) (Z ab wm)) (fun _ hk=>hk.1.2) (Z ab xc)) (fun _ hk=>hk.1.2) (Z ab xV)) (fun _ hk=>hk.1.2) (Z ab yF)) (fun _ hk=>hk.1.2) (Z ab Ag)) (fun _ hk=>hk.1.2) (Z ab AB)) (fun _ hk=>hk.1.2) (.slice Fa wo.length Fb)) (fun _ hk=>hk.1.2) (.slice FJ xe.length FL)) (fun _ hk=>hk.2) (Z ab uj)) (fun _ hk=>hk.2) (Z ab uz)) (fun _ hk=>hk.2) (Z ab uE)) (fun _ hk=>hk.2) (Z ab vE)) (fun _ hk=>hk.2) (Z ab wu)) (fun _ hk=>hk.2) (Z ab xg)) (fun _ hk=>hk.2) (Z ab xW)) (fun _ hk=>trivial)⟩
   have vw:af (Kd.R Dt 40 ((((((((((((((((w9.setCell ⟨eU,0,none⟩ (Z ab vD)).setCell ⟨eU,1,none⟩ (Z ab wm)).setCell ⟨eU,2,none⟩ (Z ab xc)).setCell ⟨eU,3,none⟩ (Z ab xV)).setCell ⟨eU,4,none⟩ (Z ab yF)).setCell ⟨eU,5,none⟩ (Z ab Ag)).setCell ⟨eU,6,none⟩ (Z ab AB)).setCell ⟨eU,7,none⟩ (.slice Fa wo.length Fb)).setCell ⟨eU,8,none⟩ (.slice FJ xe.length FL)).setCell ⟨gz,0,none⟩ (Z ab uj)).setCell ⟨gz,1,none⟩ (Z ab uz)).setCell ⟨gz,2,none⟩ (Z ab uE)).setCell ⟨gz,3,none⟩ (Z ab vE)).setCell ⟨gz,4,none⟩ (Z ab wu)).setCell ⟨gz,5,none⟩ (Z ab xg)).setCell ⟨gz,6,none⟩ (Z ab xW)) w.heap.size (fun _=>True) (.slice FJ xe.length FL) xe):=⟨by (with_reducible repeat (first|apply Kd.ky|apply Kd.jY|apply Kd.jP));exact Kd.jX (Kd.fu (p:=⟨gz,6,none⟩) (Kd.fu (p:=⟨gz,5,none⟩) (Kd.fu (p:=⟨gz,4,none⟩) (Kd.fu (p:=⟨gz,3,none⟩) (Kd.fu (p:=⟨gz,2,none⟩) (Kd.fu (p:=⟨gz,1,none⟩) (Kd.fu (p:=⟨gz,0,none⟩) (Kd.fu (p:=⟨eU,8,none⟩) (Kd.fu (p:=⟨eU,7,none⟩) (Kd.fu (p:=⟨eU,6,none⟩) (Kd.fu (p:=⟨eU,5,none⟩) (Kd.fu (p:=⟨eU,4,none⟩) (Kd.fu (p:=⟨eU,3,none⟩) (Kd.fu (p:=⟨eU,2,none⟩) (Kd.fu (p:=⟨eU,1,none⟩) (Kd.fu (p:=⟨eU,0,none⟩) (Kd.sO (Kd.sO nu.out kU.out (by decide)) lL.out (by decide)) (fun _ hk=>hk.1.2) (Z ab vD)) (fun _ hk=>hk.1.2) (Z ab wm)) (fun _ hk=>hk.1.2) (Z ab xc)) (fun _ hk=>hk.1.2) (Z ab xV)) (fun _ hk=>hk.1.2) (Z ab yF)) (fun _ hk=>hk.1.2) (Z ab Ag)) (fun _ hk=>hk.1.2) (Z ab AB)) (fun _ hk=>hk.1.2) (.slice Fa wo.length Fb)) (fun _ hk=>hk.1.2) (.slice FJ xe.length FL)) (fun _ hk=>hk.2) (Z ab uj)) (fun _ hk=>hk.2) (Z ab uz)) (fun _ hk=>hk.2) (Z ab uE)) (fun _ hk=>hk.2) (Z ab vE)) (fun _ hk=>hk.2) (Z ab wu)) (fun _ hk=>hk.2) (Z ab xg)) (fun _ hk=>hk.2) (Z ab xW)) (fun _ hk=>trivial)⟩
   have vz:af (((((((((((((((((w9.setCell ⟨eU,0,none⟩ (Z ab vD)).setCell ⟨eU,1,none⟩ (Z ab wm)).setCell ⟨eU,2,none⟩ (Z ab xc)).setCell ⟨eU,3,none⟩ (Z ab xV)).setCell ⟨eU,4,none⟩ (Z ab yF)).setCell ⟨eU,5,none⟩ (Z ab Ag)).setCell ⟨eU,6,none⟩ (Z ab AB)).setCell ⟨eU,7,none⟩ (.slice Fa wo.length Fb)).setCell ⟨eU,8,none⟩ (.slice FJ xe.length FL)).setCell ⟨gz,0,none⟩ (Z ab uj)).setCell ⟨gz,1,none⟩ (Z ab uz)).setCell ⟨gz,2,none⟩ (Z ab uE)).setCell ⟨gz,3,none⟩ (Z ab vE)).setCell ⟨gz,4,none⟩ (Z ab wu)).setCell ⟨gz,5,none⟩ (Z ab xg)).setCell ⟨gz,6,none⟩ (Z ab xW)).heap[eU]? = some (.cells #[Z ab vD,Z ab wm,Z ab xc,Z ab xV,Z ab yF,Z ab Ag,Z ab AB,.slice Fa wo.length Fb,.slice FJ xe.length FL] 25 (0,0))):=⟨by (with_reducible repeat (first|refine au ?_ _|refine ag ?_|refine aa ?_ _));refine aM ?_ vL.out _;(with_reducible repeat (first|refine au ?_ _|refine ag ?_|refine aa ?_ _));refine aM ?_ vL.out _;(with_reducible repeat (first|refine au ?_ _|refine ag ?_|refine aa ?_ _));refine aM ?_ vL.out _;(with_reducible repeat (first|refine au ?_ _|refine ag ?_|refine aa ?_ _));refine aM ?_ vL.out _;(with_reducible repeat (first|refine au ?_ _|refine ag ?_|refine aa ?_ _));refine aM ?_ vL.out _;(with_reducible repeat (first|refine au ?_ _|refine ag ?_|refine aa ?_ _));refine aM ?_ vL.out _;(with_reducible repeat (first|refine au ?_ _|refine ag ?_|refine aa ?_ _));refine aM ?_ vL.out _;(with_reducible repeat (first|refine au ?_ _|refine ag ?_|refine aa ?_ _));refine aK (cs:=#[Z ab vD,Z ab wm,Z ab xc,Z ab xV,Z ab yF,Z ab Ag,Z ab AB,.slice Fa wo.length Fb,.slice none 0 0]) ?_ 8 _ rfl;(with_reducible repeat (first|refine au ?_ _|refine ag ?_|refine aa ?_ _));refine aK (cs:=#[Z ab vD,Z ab wm,Z ab xc,Z ab xV,Z ab yF,Z ab Ag,Z ab AB,.slice none 0 0,.slice none 0 0]) ?_ 7 _ rfl;(with_reducible repeat (first|refine au ?_ _|refine ag ?_|refine aa ?_ _));refine aK (cs:=#[Z ab vD,Z ab wm,Z ab xc,Z ab xV,Z ab yF,Z ab Ag,Z ab 0,.slice none 0 0,.slice none 0 0]) ?_ 6 _ rfl;(with_reducible repeat (first|refine au ?_ _|refine ag ?_|refine aa ?_ _));refine aK (cs:=#[Z ab vD,Z ab wm,Z ab xc,Z ab xV,Z ab yF,Z ab 0,Z ab 0,.slice none 0 0,.slice none 0 0]) ?_ 5 _ rfl;(with_reducible repeat (first|refine au ?_ _|refine ag ?_|refine aa ?_ _));refine aK (cs:=#[Z ab vD,Z ab wm,Z ab xc,Z ab xV,Z ab 0,Z ab 0,Z ab 0,.slice none 0 0,.slice none 0 0]) ?_ 4 _ rfl;(with_reducible repeat (first|refine au ?_ _|refine ag ?_|refine aa ?_ _));refine aK (cs:=#[Z ab vD,Z ab wm,Z ab xc,Z ab 0,Z ab 0,Z ab 0,Z ab 0,.slice none 0 0,.slice none 0 0]) ?_ 3 _ rfl;(with_reducible repeat (first|refine au ?_ _|refine ag ?_|refine aa ?_ _));refine aK (cs:=#[Z ab vD,Z ab wm,Z ab 0,Z ab 0,Z ab 0,Z ab 0,Z ab 0,.slice none 0 0,.slice none 0 0]) ?_ 2 _ rfl;(with_reducible repeat (first|refine au ?_ _|refine ag ?_|refine aa ?_ _));refine aK (cs:=#[Z ab vD,Z ab 0,Z ab 0,Z ab 0,Z ab 0,Z ab 0,Z ab 0,.slice none 0 0,.slice none 0 0]) ?_ 1 _ rfl;(with_reducible repeat (first|refine au ?_ _|refine ag ?_|refine aa ?_ _));refine aK (cs:=#[Z ab 0,Z ab 0,Z ab 0,Z ab 0,Z ab 0,Z ab 0,Z ab 0,.slice none 0 0,.slice none 0 0]) ?_ 0 _ rfl;(with_reducible repeat (first|refine au ?_ _|refine ag ?_|refine aa ?_ _));exact kU.out⟩
   have vB:af (((((((((((((((((w9.setCell ⟨eU,0,none⟩ (Z ab vD)).setCell ⟨eU,1,none⟩ (Z ab wm)).setCell ⟨eU,2,none⟩ (Z ab xc)).setCell ⟨eU,3,none⟩ (Z ab xV)).setCell ⟨eU,4,none⟩ (Z ab yF)).setCell ⟨eU,5,none⟩ (Z ab Ag)).setCell ⟨eU,6,none⟩ (Z ab AB)).setCell ⟨eU,7,none⟩ (.slice Fa wo.length Fb)).setCell ⟨eU,8,none⟩ (.slice FJ xe.length FL)).setCell ⟨gz,0,none⟩ (Z ab uj)).setCell ⟨gz,1,none⟩ (Z ab uz)).setCell ⟨gz,2,none⟩ (Z ab uE)).setCell ⟨gz,3,none⟩ (Z ab vE)).setCell ⟨gz,4,none⟩ (Z ab wu)).setCell ⟨gz,5,none⟩ (Z ab xg)).setCell ⟨gz,6,none⟩ (Z ab xW)).heap[gz]? = some (.cells #[Z ab uj,Z ab uz,Z ab uE,Z ab vE,Z ab wu,Z ab xg,Z ab xW] 29 (0,0))):=⟨by (with_reducible repeat (first|refine au ?_ _|refine ag ?_|refine aa ?_ _));refine aK (cs:=#[Z ab uj,Z ab uz,Z ab uE,Z ab vE,Z ab wu,Z ab xg,Z ab 0]) ?_ 6 _ rfl;(with_reducible repeat (first|refine au ?_ _|refine ag ?_|refine aa ?_ _));refine aK (cs:=#[Z ab uj,Z ab uz,Z ab uE,Z ab vE,Z ab wu,Z ab 0,Z ab 0]) ?_ 5 _ rfl;(with_reducible repeat (first|refine au ?_ _|refine ag ?_|refine aa ?_ _));refine aK (cs:=#[Z ab uj,Z ab uz,Z ab uE,Z ab vE,Z ab 0,Z ab 0,Z ab 0]) ?_ 4 _ rfl;(with_reducible repeat (first|refine au ?_ _|refine ag ?_|refine aa ?_ _));refine aK (cs:=#[Z ab uj,Z ab uz,Z ab uE,Z ab 0,Z ab 0,Z ab 0,Z ab 0]) ?_ 3 _ rfl;(with_reducible repeat (first|refine au ?_ _|refine ag ?_|refine aa ?_ _));refine aK (cs:=#[Z ab uj,Z ab uz,Z ab 0,Z ab 0,Z ab 0,Z ab 0,Z ab 0]) ?_ 2 _ rfl;(with_reducible repeat (first|refine au ?_ _|refine ag ?_|refine aa ?_ _));refine aK (cs:=#[Z ab uj,Z ab 0,Z ab 0,Z ab 0,Z ab 0,Z ab 0,Z ab 0]) ?_ 1 _ rfl;(with_reducible repeat (first|refine au ?_ _|refine ag ?_|refine aa ?_ _));refine aK (cs:=#[Z ab 0,Z ab 0,Z ab 0,Z ab 0,Z ab 0,Z ab 0,Z ab 0]) ?_ 0 _ rfl;(with_reducible repeat (first|refine au ?_ _|refine ag ?_|refine aa ?_ _));refine aM ?_ q9.out _;(with_reducible repeat (first|refine au ?_ _|refine ag ?_|refine aa ?_ _));refine aM ?_ q9.out _;(with_reducible repeat (first|refine au ?_ _|refine ag ?_|refine aa ?_ _));refine aM ?_ q9.out _;(with_reducible repeat (first|refine au ?_ _|refine ag ?_|refine aa ?_ _));refine aM ?_ q9.out _;(with_reducible repeat (first|refine au ?_ _|refine ag ?_|refine aa ?_ _));refine aM ?_ q9.out _;(with_reducible repeat (first|refine au ?_ _|refine ag ?_|refine aa ?_ _));refine aM ?_ q9.out _;(with_reducible repeat (first|refine au ?_ _|refine ag ?_|refine aa ?_ _));refine aM ?_ q9.out _;(with_reducible repeat (first|refine au ?_ _|refine ag ?_|refine aa ?_ _));refine aM ?_ q9.out _;(with_reducible repeat (first|refine au ?_ _|refine ag ?_|refine aa ?_ _));refine aM ?_ q9.out _;(with_reducible repeat (first|refine au ?_ _|refine ag ?_|refine aa ?_ _));exact lL.out⟩
   have xU:af (Below w.heap.size w ((((((((((((((((w9.setCell ⟨eU,0,none⟩ (Z ab vD)).setCell ⟨eU,1,none⟩ (Z ab wm)).setCell ⟨eU,2,none⟩ (Z ab xc)).setCell ⟨eU,3,none⟩ (Z ab xV)).setCell ⟨eU,4,none⟩ (Z ab yF)).setCell ⟨eU,5,none⟩ (Z ab Ag)).setCell ⟨eU,6,none⟩ (Z ab AB)).setCell ⟨eU,7,none⟩ (.slice Fa wo.length Fb)).setCell ⟨eU,8,none⟩ (.slice FJ xe.length FL)).setCell ⟨gz,0,none⟩ (Z ab uj)).setCell ⟨gz,1,none⟩ (Z ab uz)).setCell ⟨gz,2,none⟩ (Z ab uE)).setCell ⟨gz,3,none⟩ (Z ab vE)).setCell ⟨gz,4,none⟩ (Z ab wu)).setCell ⟨gz,5,none⟩ (Z ab xg)).setCell ⟨gz,6,none⟩ (Z ab xW))):=⟨gp⟩
   (try clear nk)
   (try clear nu)
   (try clear kU)
   (try clear lL)
   (try clear HB)
   generalize ((((((((((((((((w9.setCell ⟨eU,0,none⟩ (Z ab vD)).setCell ⟨eU,1,none⟩ (Z ab wm)).setCell ⟨eU,2,none⟩ (Z ab xc)).setCell ⟨eU,3,none⟩ (Z ab xV)).setCell ⟨eU,4,none⟩ (Z ab yF)).setCell ⟨eU,5,none⟩ (Z ab Ag)).setCell ⟨eU,6,none⟩ (Z ab AB)).setCell ⟨eU,7,none⟩ (.slice Fa wo.length Fb)).setCell ⟨eU,8,none⟩ (.slice FJ xe.length FL)).setCell ⟨gz,0,none⟩ (Z ab uj)).setCell ⟨gz,1,none⟩ (Z ab uz)).setCell ⟨gz,2,none⟩ (Z ab uE)).setCell ⟨gz,3,none⟩ (Z ab vE)).setCell ⟨gz,4,none⟩ (Z ab wu)).setCell ⟨gz,5,none⟩ (Z ab xg)).setCell ⟨gz,6,none⟩ (Z ab xW)) = w15 at vv vw vz vB xU ⊢
   have nk:=vv
   have nu:=vw
   have kU:=vz
   have lL:=vB
   have HB:=xU
   clear vv vw vz vB xU
   replace nk:=af.mk (Kd.jP nk.out)
   replace nu:=af.mk (Kd.jP nu.out)
   replace kU:=af.mk (ag kU.out)
   replace lL:=af.mk (ag lL.out)
   replace HB:=af.mk (bF HB.out)
   refine jV (n:=11) (S:=fun w'=>w'.cell? ⟨eU,0,none⟩ = some (Z ab vD)∧w'.cell? ⟨eU,1,none⟩ = some (Z ab wm)∧w'.cell? ⟨eU,2,none⟩ = some (Z ab xc)∧w'.cell? ⟨eU,3,none⟩ = some (Z ab xV)∧w'.cell? ⟨eU,4,none⟩ = some (Z ab yF)∧w'.cell? ⟨eU,5,none⟩ = some (Z ab Ag)∧w'.cell? ⟨eU,6,none⟩ = some (Z ab AB)∧w'.cell? ⟨eU,7,none⟩ = some (.slice Fa wo.length Fb)∧w'.cell? ⟨eU,8,none⟩ = some (.slice FJ xe.length FL)∧w'.cell? ⟨gz,0,none⟩ = some (Z ab uj)∧w'.cell? ⟨gz,1,none⟩ = some (Z ab uz)∧w'.cell? ⟨gz,2,none⟩ = some (Z ab uE)∧w'.cell? ⟨gz,3,none⟩ = some (Z ab vE)∧w'.cell? ⟨gz,4,none⟩ = some (Z ab wu)∧w'.cell? ⟨gz,5,none⟩ = some (Z ab xg)∧w'.cell? ⟨gz,6,none⟩ = some (Z ab xW)) (ds:=[]) #[al,al,al,al,al,al,al,al,al,al,al] aT rfl rfl (vk kU.out (Ci lL.out)) (fun hHeld=>?_);refine jQ bS.apn bS.ad8 (fun dx mD=>?_)
   generalize w15.drew = w16 at nk nu kU lL HB hHeld ⊢
   refine dR (i:=3) (N:=some 15) (aY dx.out aT) ?_
   refine iT (i:=0) (N:=some 12) (bL dx.out mD.out aT) hHeld ?_
   refine iT (i:=1) (N:=some 13) (bL dx.out mD.out aT) hHeld ?_
   refine Ro (σ:=Nat) 2 #[ac,ac,ac,ac,ac,ac,ac,ac,ac,al,al] (fun s_=>[(14,.agg #[Z ab XL,Z ab XM,Z ab XN,Z ab XO]),(16,.tuple #[.agg #[Z ab Oj,Z ab Qr,Z ab R8,Z ab V6],Z ab Qs]),(3,.pointer (some ⟨s_,0,none⟩)),(11,.tuple #[.agg #[Z ab Oj,Z ab Qr,Z ab R8,Z ab V6],Z ab Qs]),(17,.agg #[Z ab Oj,Z ab Qr,Z ab R8,Z ab V6]),(18,Z ab Qs)]) (fun s_ w'=>(w'.cell? ⟨eU,0,none⟩ = some (Z ab vD)∧w'.cell? ⟨eU,1,none⟩ = some (Z ab wm)∧w'.cell? ⟨eU,2,none⟩ = some (Z ab xc)∧w'.cell? ⟨eU,3,none⟩ = some (Z ab xV)∧w'.cell? ⟨eU,4,none⟩ = some (Z ab yF)∧w'.cell? ⟨eU,5,none⟩ = some (Z ab Ag)∧w'.cell? ⟨eU,6,none⟩ = some (Z ab AB)∧w'.cell? ⟨eU,7,none⟩ = some (.slice Fa wo.length Fb)∧w'.cell? ⟨eU,8,none⟩ = some (.slice FJ xe.length FL)∧w'.cell? ⟨gz,0,none⟩ = some (Z ab uj)∧w'.cell? ⟨gz,1,none⟩ = some (Z ab uz)∧w'.cell? ⟨gz,2,none⟩ = some (Z ab uE)∧w'.cell? ⟨gz,3,none⟩ = some (Z ab vE)∧w'.cell? ⟨gz,4,none⟩ = some (Z ab wu)∧w'.cell? ⟨gz,5,none⟩ = some (Z ab xg)∧w'.cell? ⟨gz,6,none⟩ = some (Z ab xW))∧(Kd.R Kd.bool 4 w' w.heap.size (fun _=>True) (.slice Fa wo.length Fb) wo)∧(Kd.R Dt 40 w' w.heap.size (fun _=>True) (.slice FJ xe.length FL) xe)∧(w'.heap[eU]? = some (.cells #[Z ab vD,Z ab wm,Z ab xc,Z ab xV,Z ab yF,Z ab Ag,Z ab AB,.slice Fa wo.length Fb,.slice FJ xe.length FL] 25 (0,0)))∧(w'.heap[gz]? = some (.cells #[Z ab uj,Z ab uz,Z ab uE,Z ab vE,Z ab wu,Z ab xg,Z ab xW] 29 (0,0)))∧(w'.heap[s_]? = some (.cells #[Z ab 0,Z ab 0,Z ab 0,Z ab 0] 31 (0,0)))∧(w.heap.size≤s_)∧(w.heap.size≤s_)∧(eU≠s_)∧(s_≠eU)∧(gz≠s_)∧(s_≠gz)∧(Below w.heap.size w w')) ?_ ?_
   rotate_left
   ·intro qW
    refine Xy (i:=2) (j:=8) (Ni:=some 14) (Nj:=some 3) #[ac,ac,ac,ac,al,al,al,al,al,al,al] #[ac,ac,al,ac,al,al,al,al,ac,al,al] rfl rfl rfl rfl (Jt dx.out aT) (by decide) (by decide) (fun K hK=>?_) (fun K hK=>?_)
    ·skip
     refine gY Try.func62 aT rfl #[Z ab 2000,Z ab 2000] (by rfl) rfl rfl jB ?_
     with_reducible refine (mM.calls 2000 2000 XL XM XN XO _ A2.out).mono ?_
     rintro e DC ⟨rfl,hb⟩
     refine ⟨_,rfl,?_⟩
     replace nk:=wh nk hb
     replace nu:=wh nu hb
     replace kU:=bn kU hb
     replace lL:=bn lL hb
     replace HB:=dz HB hb
     (try clear hb)
     (try clear hb2)
     (try clear hk)
     (try clear hi)
     refine hK.out _ _ (vk kU.out (Ci lL.out)) (fun hHeld=>?_)
     clear hK K
     refine dQ aoi ?_
     refine Xy (i:=4) (j:=8) (Ni:=some 16) (Nj:=some 3) #[ac,ac,ac,ac,ac,al,al,al,al,al,al] #[ac,ac,ac,ac,al,al,al,al,ac,al,al] rfl rfl rfl rfl (Jt dx.out aT) (by decide) (by decide) (fun K hK=>?_) (fun K hK=>?_)
     ·skip
      refine gY Try.func20 aT rfl #[.agg #[Z ab vD,Z ab wm,Z ab xc,Z ab xV,Z ab yF,Z ab Ag,Z ab AB,.slice Fa wo.length Fb,.slice FJ xe.length FL],.agg #[Z ab uj,Z ab uz,Z ab uE,Z ab vE,Z ab wu,Z ab xg,Z ab xW],.agg #[Z ab XL,Z ab XM,Z ab XN,Z ab XO],Z ab 0,.agg #[Z ab 2,Z ab 0]] (by rfl) rfl rfl jB ?_
      with_reducible refine (pJ.calls vD wm xc xV yF Ag AB _ _ wo _ _ xe uj uz uE vE wu xg xW XL XM XN XO 0 2 0 Oj Qr R8 V6 Qs _ ?dG ?dH ?eP ?eQ A3.out).mono ?_
      (case dG=>repeat (first|exact (Kd.fK nk.out).2.2|(with_reducible refine Kd.bJ ?_ _)|(with_reducible refine Kd.bK ?_ _)|(with_reducible refine Kd.bZ ?_)))
      (case dH=>exact (Kd.fK nk.out).2.1)
      (case eP=>repeat (first|exact (Kd.fK nu.out).2.2|(with_reducible refine Kd.bJ ?_ _)|(with_reducible refine Kd.bK ?_ _)|(with_reducible refine Kd.bZ ?_)))
      (case eQ=>exact (Kd.fK nu.out).2.1)
      rintro e w18 ⟨rfl,hb⟩
      refine ⟨_,rfl,?_⟩
      replace nk:=wh nk hb
      replace nu:=wh nu hb
      replace kU:=bn kU hb
      replace lL:=bn lL hb
      replace HB:=dz HB hb
      (try clear hb)
      (try clear hb2)
      (try clear hk)
      (try clear hi)
      refine hK.out _ _ (vk kU.out (Ci lL.out)) (fun hHeld=>?_)
      clear hK K
      refine dQ al8 ?_
      refine dR (i:=5) (N:=some 11) (aY dx.out aT) ?_
      refine dR (i:=6) (N:=some 17) (aY dx.out aT) ?_
      refine dR (i:=7) (N:=some 18) (aY dx.out aT) ?_
      refine iW (i:=8) (N:=some 3) #[ac,ac,ac,ac,ac,ac,ac,ac,ac,al,al] rfl rfl (gJ dx.out aT) (by decide) (fun K hK=>?_)
      refine pq ?hg (N:=3) ?hd (cs:=#[Z ab 0,Z ab 0,Z ab 0,Z ab 0]) (t:=31) ?hr ?_;(case hd=>rfl);(case hg=>rfl);(case hr=>first|(go_simp;done)|(go_simp;rfl))
      intro qL hg w19 ay hb
      have sI:=af.mk (ay)
      have Yq:=bY HB hg
      have Yr:=bY HB hg
      have eG:=fG kU hg
      have ql:=fH kU hg
      have fT:=fG lL hg
      have qm:=fH lL hg
      replace nk:=wh nk hb
      replace nu:=wh nu hb
      replace kU:=bn kU hb
      replace lL:=bn lL hb
      replace HB:=dz HB hb
      clear hb ay hg
      refine hK.out _ _ (vk kU.out (Ci lL.out)) (fun hHeld=>?_)
      clear hK K
      refine dQ aBS ?_
      exact dQ Nk (qW (qL) _ ⟨hHeld,aBT,aBU,iK,iK,iK,Yq.out,Yr.out,eG.out,ql.out,fT.out,qm.out,gp⟩)
     ·skip
      refine pq ?hg (N:=3) ?hd (cs:=#[Z ab 0,Z ab 0,Z ab 0,Z ab 0]) (t:=31) ?hr ?_;(case hd=>rfl);(case hg=>rfl);(case hr=>first|(go_simp;done)|(go_simp;rfl))
      intro qL hg w18 ay hb
      have sI:=af.mk (ay)
      have Yq:=bY HB hg
      have Yr:=bY HB hg
      have eG:=fG kU hg
      have ql:=fH kU hg
      have fT:=fG lL hg
      have qm:=fH lL hg
      replace nk:=wh nk hb
      replace nu:=wh nu hb
      replace kU:=bn kU hb
      replace lL:=bn lL hb
      replace HB:=dz HB hb
      clear hb ay hg
      refine hK.out _ _ (vk kU.out (Ci lL.out)) (fun hHeld=>?_)
      clear hK K
      refine dQ aBS ?_
      refine iW (i:=4) (N:=some 16) #[ac,ac,ac,ac,ac,al,al,al,ac,al,al] rfl rfl (gJ dx.out aT) (by decide) (fun K hK=>?_)
      refine gY Try.func20 aT rfl #[.agg #[Z ab vD,Z ab wm,Z ab xc,Z ab xV,Z ab yF,Z ab Ag,Z ab AB,.slice Fa wo.length Fb,.slice FJ xe.length FL],.agg #[Z ab uj,Z ab uz,Z ab uE,Z ab vE,Z ab wu,Z ab xg,Z ab xW],.agg #[Z ab XL,Z ab XM,Z ab XN,Z ab XO],Z ab 0,.agg #[Z ab 2,Z ab 0]] (by rfl) rfl rfl jB ?_
      with_reducible refine (pJ.calls vD wm xc xV yF Ag AB _ _ wo _ _ xe uj uz uE vE wu xg xW XL XM XN XO 0 2 0 Oj Qr R8 V6 Qs _ ?dG ?dH ?eP ?eQ A3.out).mono ?_
      (case dG=>repeat (first|exact (Kd.fK nk.out).2.2|(with_reducible refine Kd.bJ ?_ _)|(with_reducible refine Kd.bK ?_ _)|(with_reducible refine Kd.bZ ?_)))
      (case dH=>exact (Kd.fK nk.out).2.1)
      (case eP=>repeat (first|exact (Kd.fK nu.out).2.2|(with_reducible refine Kd.bJ ?_ _)|(with_reducible refine Kd.bK ?_ _)|(with_reducible refine Kd.bZ ?_)))
      (case eQ=>exact (Kd.fK nu.out).2.1)
      rintro e w19 ⟨rfl,hb⟩
      refine ⟨_,rfl,?_⟩
      replace nk:=wh nk hb
      replace nu:=wh nu hb
      replace kU:=bn kU hb
      replace lL:=bn lL hb
      replace sI:=bn sI hb
      replace HB:=dz HB hb
      (try clear hb)
      (try clear hb2)
      (try clear hk)
      (try clear hi)
      refine hK.out _ _ (vk kU.out (Ci lL.out)) (fun hHeld=>?_)
      clear hK K
      refine dQ al8 ?_
      refine dR (i:=5) (N:=some 11) (aY dx.out aT) ?_
      refine dR (i:=6) (N:=some 17) (aY dx.out aT) ?_
      refine dR (i:=7) (N:=some 18) (aY dx.out aT) ?_
      exact dQ Nk (qW (qL) _ ⟨hHeld,aBT,aBU,iK,iK,iK,Yq.out,Yr.out,eG.out,ql.out,fT.out,qm.out,gp⟩)
    ·skip
     refine pq ?hg (N:=3) ?hd (cs:=#[Z ab 0,Z ab 0,Z ab 0,Z ab 0]) (t:=31) ?hr ?_;(case hd=>rfl);(case hg=>rfl);(case hr=>first|(go_simp;done)|(go_simp;rfl))
     intro qL hg DC ay hb
     have sI:=af.mk (ay)
     have Yq:=bY HB hg
     have Yr:=bY HB hg
     have eG:=fG kU hg
     have ql:=fH kU hg
     have fT:=fG lL hg
     have qm:=fH lL hg
     replace nk:=wh nk hb
     replace nu:=wh nu hb
     replace kU:=bn kU hb
     replace lL:=bn lL hb
     replace HB:=dz HB hb
     clear hb ay hg
     refine hK.out _ _ (vk kU.out (Ci lL.out)) (fun hHeld=>?_)
     clear hK K
     refine dQ aBS ?_
     refine iW (i:=2) (N:=some 14) #[ac,ac,ac,ac,al,al,al,al,ac,al,al] rfl rfl (gJ dx.out aT) (by decide) (fun K hK=>?_)
     refine gY Try.func62 aT rfl #[Z ab 2000,Z ab 2000] (by rfl) rfl rfl jB ?_
     with_reducible refine (mM.calls 2000 2000 XL XM XN XO _ A2.out).mono ?_
     rintro e w18 ⟨rfl,hb⟩
     refine ⟨_,rfl,?_⟩
     replace nk:=wh nk hb
     replace nu:=wh nu hb
     replace kU:=bn kU hb
     replace lL:=bn lL hb
     replace sI:=bn sI hb
     replace HB:=dz HB hb
     (try clear hb)
     (try clear hb2)
     (try clear hk)
     (try clear hi)
     refine hK.out _ _ (vk kU.out (Ci lL.out)) (fun hHeld=>?_)
     clear hK K
     refine dQ aoi ?_
     refine iW (i:=4) (N:=some 16) #[ac,ac,ac,ac,ac,al,al,al,ac,al,al] rfl rfl (gJ dx.out aT) (by decide) (fun K hK=>?_)
     refine gY Try.func20 aT rfl #[.agg #[Z ab vD,Z ab wm,Z ab xc,Z ab xV,Z ab yF,Z ab Ag,Z ab AB,.slice Fa wo.length Fb,.slice FJ xe.length FL],.agg #[Z ab uj,Z ab uz,Z ab uE,Z ab vE,Z ab wu,Z ab xg,Z ab xW],.agg #[Z ab XL,Z ab XM,Z ab XN,Z ab XO],Z ab 0,.agg #[Z ab 2,Z ab 0]] (by rfl) rfl rfl jB ?_
     with_reducible refine (pJ.calls vD wm xc xV yF Ag AB _ _ wo _ _ xe uj uz uE vE wu xg xW XL XM XN XO 0 2 0 Oj Qr R8 V6 Qs _ ?dG ?dH ?eP ?eQ A3.out).mono ?_
     (case dG=>repeat (first|exact (Kd.fK nk.out).2.2|(with_reducible refine Kd.bJ ?_ _)|(with_reducible refine Kd.bK ?_ _)|(with_reducible refine Kd.bZ ?_)))
     (case dH=>exact (Kd.fK nk.out).2.1)
     (case eP=>repeat (first|exact (Kd.fK nu.out).2.2|(with_reducible refine Kd.bJ ?_ _)|(with_reducible refine Kd.bK ?_ _)|(with_reducible refine Kd.bZ ?_)))
     (case eQ=>exact (Kd.fK nu.out).2.1)
     rintro e w19 ⟨rfl,hb⟩
     refine ⟨_,rfl,?_⟩
     replace nk:=wh nk hb
     replace nu:=wh nu hb
     replace kU:=bn kU hb
     replace lL:=bn lL hb
     replace sI:=bn sI hb
     replace HB:=dz HB hb
     (try clear hb)
     (try clear hb2)
     (try clear hk)
     (try clear hi)
     refine hK.out _ _ (vk kU.out (Ci lL.out)) (fun hHeld=>?_)
     clear hK K
     refine dQ al8 ?_
     refine dR (i:=5) (N:=some 11) (aY dx.out aT) ?_
     refine dR (i:=6) (N:=some 17) (aY dx.out aT) ?_
     refine dR (i:=7) (N:=some 18) (aY dx.out aT) ?_
     exact dQ Nk (qW (qL) _ ⟨hHeld,aBT,aBU,iK,iK,iK,Yq.out,Yr.out,eG.out,ql.out,fT.out,qm.out,gp⟩)
   rintro qL Jb ⟨hS_,h0_,h1_,h2_,h3_,h4_,h5_,h6_,h7_,h8_,h9_,JI,V7⟩
   have vv:af (Kd.R Kd.bool 4 Jb w.heap.size (fun _=>True) (.slice Fa wo.length Fb) wo):=⟨h0_⟩
   have vw:af (Kd.R Dt 40 Jb w.heap.size (fun _=>True) (.slice FJ xe.length FL) xe):=⟨h1_⟩
   have vz:af (Jb.heap[eU]? = some (.cells #[Z ab vD,Z ab wm,Z ab xc,Z ab xV,Z ab yF,Z ab Ag,Z ab AB,.slice Fa wo.length Fb,.slice FJ xe.length FL] 25 (0,0))):=⟨h2_⟩
   have vB:af (Jb.heap[gz]? = some (.cells #[Z ab uj,Z ab uz,Z ab uE,Z ab vE,Z ab wu,Z ab xg,Z ab xW] 29 (0,0))):=⟨h3_⟩
   have xU:af (Jb.heap[qL]? = some (.cells #[Z ab 0,Z ab 0,Z ab 0,Z ab 0] 31 (0,0))):=⟨h4_⟩
   have Jo:af (w.heap.size≤qL):=⟨h5_⟩
   have SQ:af (w.heap.size≤qL):=⟨h6_⟩
   have Yt:af (eU≠qL):=⟨h7_⟩
   have n8_:af (qL≠eU):=⟨h8_⟩
   have n9_:af (gz≠qL):=⟨h9_⟩
   have JJ:af (qL≠gz):=⟨JI⟩
   have V8:af (Below w.heap.size w Jb):=⟨V7⟩
   clear nk nu kU lL HB
   clear h0_ h1_ h2_ h3_ h4_ h5_ h6_ h7_ h8_ h9_ JI V7
   have nk:=vv
   have nu:=vw
   have kU:=vz
   have lL:=vB
   have sI:=xU
   have Yq:=Jo
   have Yr:=SQ
   have eG:=Yt
   have ql:=n8_
   have fT:=n9_
   have qm:=JJ
   have HB:=V8
   clear vv vw vz vB xU Jo SQ Yt n8_ n9_ JJ V8
   have hHeld:Jb.cell? ⟨eU,0,none⟩ = some (Z ab vD)∧Jb.cell? ⟨eU,1,none⟩ = some (Z ab wm)∧Jb.cell? ⟨eU,2,none⟩ = some (Z ab xc)∧Jb.cell? ⟨eU,3,none⟩ = some (Z ab xV)∧Jb.cell? ⟨eU,4,none⟩ = some (Z ab yF)∧Jb.cell? ⟨eU,5,none⟩ = some (Z ab Ag)∧Jb.cell? ⟨eU,6,none⟩ = some (Z ab AB)∧Jb.cell? ⟨eU,7,none⟩ = some (.slice Fa wo.length Fb)∧Jb.cell? ⟨eU,8,none⟩ = some (.slice FJ xe.length FL)∧Jb.cell? ⟨gz,0,none⟩ = some (Z ab uj)∧Jb.cell? ⟨gz,1,none⟩ = some (Z ab uz)∧Jb.cell? ⟨gz,2,none⟩ = some (Z ab uE)∧Jb.cell? ⟨gz,3,none⟩ = some (Z ab vE)∧Jb.cell? ⟨gz,4,none⟩ = some (Z ab wu)∧Jb.cell? ⟨gz,5,none⟩ = some (Z ab xg)∧Jb.cell? ⟨gz,6,none⟩ = some (Z ab xW):=hS_
   refine dQ (a':=?_) ?_ ?_
   rotate_left
   ·simp only [wy,Act.put,ap,aq,ar]
    rfl
   refine iW (i:=9) (N:=none) #[ac,ac,ac,ac,ac,ac,ac,ac,ac,ac,al] rfl rfl (gJ dx.out aT) (by decide) (fun K hK=>?_)
   have aGf:Jb.cell? ⟨qL,0,none⟩ = some (Z ab 0):=(ae sI.out 0).trans rfl
   have azZ:=bg sI.out 0
   have ai1:=eG.out
   have ai2:=fT.out
   have ai3:=ql.out
   have ai4:=qm.out
   have a5r:Jb.cell? ⟨qL,1,none⟩ = some (Z ab 0):=(ae sI.out 1).trans rfl
   have a0I:=bg sI.out 1
   have aNc:=eG.out
   have aNd:=fT.out
   have aNe:=ql.out
   have aNf:=qm.out
   have a5s:Jb.cell? ⟨qL,2,none⟩ = some (Z ab 0):=(ae sI.out 2).trans rfl
   have a0J:=bg sI.out 2
   have aNg:=eG.out
   have aNh:=fT.out
   have aNi:=ql.out
   have aNj:=qm.out
   have a5t:Jb.cell? ⟨qL,3,none⟩ = some (Z ab 0):=(ae sI.out 3).trans rfl
   have a0K:=bg sI.out 3
   have aNk:=eG.out
   have aNl:=fT.out
   have aNm:=ql.out
   have aNn:=qm.out
   refine vF (w1:=?_) (by rfl) rfl ?_ ?_
   rotate_left
   ·go_simp
    rfl
   refine hK.out _ _ ⟨(dI eG ((dI eG ((dI eG ((dI eG (hHeld.1)))))))),(dI eG ((dI eG ((dI eG ((dI eG (hHeld.2.1)))))))),(dI eG ((dI eG ((dI eG ((dI eG (hHeld.2.2.1)))))))),(dI eG ((dI eG ((dI eG ((dI eG (hHeld.2.2.2.1)))))))),(dI eG ((dI eG ((dI eG ((dI eG (hHeld.2.2.2.2.1)))))))),(dI eG ((dI eG ((dI eG ((dI eG (hHeld.2.2.2.2.2.1)))))))),(dI eG ((dI eG ((dI eG ((dI eG (hHeld.2.2.2.2.2.2.1)))))))),(dI eG ((dI eG ((dI eG ((dI eG (hHeld.2.2.2.2.2.2.2.1)))))))),(dI eG ((dI eG ((dI eG ((dI eG (hHeld.2.2.2.2.2.2.2.2.1)))))))),(dI fT ((dI fT ((dI fT ((dI fT (hHeld.2.2.2.2.2.2.2.2.2.1)))))))),(dI fT ((dI fT ((dI fT ((dI fT (hHeld.2.2.2.2.2.2.2.2.2.2.1)))))))),(dI fT ((dI fT ((dI fT ((dI fT (hHeld.2.2.2.2.2.2.2.2.2.2.2.1)))))))),(dI fT ((dI fT ((dI fT ((dI fT (hHeld.2.2.2.2.2.2.2.2.2.2.2.2.1)))))))),(dI fT ((dI fT ((dI fT ((dI fT (hHeld.2.2.2.2.2.2.2.2.2.2.2.2.2.1)))))))),(dI fT ((dI fT ((dI fT ((dI fT (hHeld.2.2.2.2.2.2.2.2.2.2.2.2.2.2.1)))))))),(dI fT ((dI fT ((dI fT ((dI fT (hHeld.2.2.2.2.2.2.2.2.2.2.2.2.2.2.2))))))))⟩ (fun hHeld=>?_)
   clear hK K
   refine dR (i:=10) (N:=some 4) (aY dx.out aT) ?_
   refine mi (ni dx.out aT) ?_
   have ai5:=fT.out
   have ai6:=qm.out
   obtain ⟨ah9,aia,aue,auf,aNo,aNp,aNq,aib,aic,aug,auh,aNr,aNs,aNt⟩:=kz lL.out
   try go_wp2_with (first|((with_reducible refine aU (f:=37) rfl ?_);refine dn (some 22) rfl rfl Try.func37 aT rfl #[.agg #[Z ab uj,Z ab uz,Z ab uE,Z ab vE,Z ab wu,Z ab xg,Z ab xW],.agg #[Z ab 300,Z ab 310]] rfl jB ?_;(with_reducible refine (kL.calls k uj uz uE vE wu xg xW 300 310 agP agQ _ A4.out).mono ?_);rintro e w27 ⟨rfl,hb⟩;refine ⟨_,rfl,?_⟩;have vv:=af.mk (Kd.lZ (by (with_reducible repeat (first|apply Kd.ky|apply Kd.jY|apply Kd.jP));exact (Kd.jX (Kd.fu (p:=⟨qL,3,none⟩) (Kd.fu (p:=⟨qL,2,none⟩) (Kd.fu (p:=⟨qL,1,none⟩) (Kd.fu (p:=⟨qL,0,none⟩) (Kd.sO nk.out sI.out (by decide)) (fun _ hk=>hk.2) (Z ab Oj)) (fun _ hk=>hk.2) (Z ab Qr)) (fun _ hk=>hk.2) (Z ab R8)) (fun _ hk=>hk.2) (Z ab V6)) (fun _ h_=>h_.1))) hb);have vw:=af.mk (Kd.lZ (by (with_reducible repeat (first|apply Kd.ky|apply Kd.jY|apply Kd.jP));exact (Kd.jX (Kd.fu (p:=⟨qL,3,none⟩) (Kd.fu (p:=⟨qL,2,none⟩) (Kd.fu (p:=⟨qL,1,none⟩) (Kd.fu (p:=⟨qL,0,none⟩) (Kd.sO nu.out sI.out (by decide)) (fun _ hk=>hk.2) (Z ab Oj)) (fun _ hk=>hk.2) (Z ab Qr)) (fun _ hk=>hk.2) (Z ab R8)) (fun _ hk=>hk.2) (Z ab V6)) (fun _ h_=>h_.1))) hb);have vz:=bn kU hb;have vB:=bn lL hb;have xU:=af.mk (ah (g:=qL) (o:=.cells #[Z ab Oj,Z ab Qr,Z ab R8,Z ab V6] 31 (0,0)) (by (with_reducible repeat (first|refine au ?_ _|refine ag ?_|refine aa ?_ _));refine aK (cs:=#[Z ab Oj,Z ab Qr,Z ab R8,Z ab 0]) ?_ 3 _ rfl;(with_reducible repeat (first|refine au ?_ _|refine ag ?_|refine aa ?_ _));refine aK (cs:=#[Z ab Oj,Z ab Qr,Z ab 0,Z ab 0]) ?_ 2 _ rfl;(with_reducible repeat (first|refine au ?_ _|refine ag ?_|refine aa ?_ _));refine aK (cs:=#[Z ab Oj,Z ab 0,Z ab 0,Z ab 0]) ?_ 1 _ rfl;(with_reducible repeat (first|refine au ?_ _|refine ag ?_|refine aa ?_ _));refine aK (cs:=#[Z ab 0,Z ab 0,Z ab 0,Z ab 0]) ?_ 0 _ rfl;(with_reducible repeat (first|refine au ?_ _|refine ag ?_|refine aa ?_ _));exact sI.out) hb);have Jo:=dz HB hb;clear nk;clear nu;clear kU;clear lL;clear sI;clear HB;have nk:=vv;have nu:=vw;have kU:=vz;have lL:=vB;have sI:=xU;have HB:=Jo;clear vv vw vz vB xU Jo;(try clear hb);(try clear hb2);(try clear hk);(try clear hi);have az0:=ql.out;have az1:=eG.out;obtain ⟨EF,EG,Lb,Lc,EH,EI,Ld,Le⟩:=jA sI.out))
   go_ret
   exact ⟨mJ,gp⟩
  ·rw [if_neg c6] at H
   have Du:(agP == 3) = false:=beq_eq_false_iff_ne.mpr c6
   have aXf:(agP != 3) = true:=bne_iff_ne.mpr c6
   have hh_:=bh H
   rw [hr_.out] at hh_
   cases hh_
 ·rw [if_neg c5] at H
  have yt:((an (Qs+agQ)) == 0) = false:=beq_eq_false_iff_ne.mpr c5
  have amd:((an (Qs+agQ)) != 0) = true:=bne_iff_ne.mpr c5
  have hh_:=bh H
  rw [hr_.out] at hh_
  cases hh_
def jZ.f (ai:Int) (aj:Int) (az:Int) (aA:Int) (aI:Int) (aD:Int) (aJ:Int) (aX:List Bool) (aG:List (qK)):Option (Bool):=if (aX.length:Int) > 200 then (some true) else (some (decide ((aG.length:Int) > 3000)))
theorem jZ.calls (ai:Int) (aj:Int) (az:Int) (aA:Int) (aI:Int) (aD:Int) (aJ:Int) (dY:Option Addr) (dS:Nat) (aX:List Bool) (dV:Option Addr) (dU:Nat) (aG:List (qK)) (r:Bool) (w:ao) (jC:Kd.C Kd.bool w dY aX.length aX) (jD:aX.length≤dS) (jE:Kd.C Dt w dV aG.length aG) (jF:aG.length≤dU) (h:jZ.f ai aj az aA aI aD aJ aX aG = some r):
 Calls Try.prog 22 #[.agg #[Z ab ai,Z ab aj,Z ab az,Z ab aA,Z ab aI,Z ab aD,Z ab aJ,.slice dY aX.length dS,.slice dV aG.length dU]] w fun e w'=>e = .returned (.bool r)∧Below w.heap.size w w':=by
 have xS:=Try.underlying25
 have iI:=af.mk jC
 have iO:=af.mk jD
 clear jC jD
 have iB:=af.mk jE
 have iP:=af.mk jF
 clear jE jF
 have HB:=af.mk (Below.refl w.heap.size w)
 have H:(if (aX.length:Int) > 200 then (some true) else (some (decide ((aG.length:Int) > 3000)))) = some r:=h
 clear h
 by_cases c2:(aX.length:Int) > 200
 ·rw [if_pos c2] at H
  have ac8:decide (200 < (aX.length:Int)) = true:=decide_eq_true c2
  have aXi:decide (200 < aX.length) = true:=decide_eq_true (by omega)
  clear c2
  obtain rfl:=bh H
  go_enter Try.func22,Try.ntmps22
  go_wp2_with (first|((with_reducible refine av (N:=1) rfl ?_);(try (refine pU (by rfl) ?_;dsimp only));refine ak (by rfl) (N:=1) (by rfl) (cs:=#[Z ab ai,Z ab aj,Z ab az,Z ab aA,Z ab aI,Z ab aD,Z ab aJ,.slice dY aX.length dS,.slice dV aG.length dU]) (t:=25) fU ?_;intro aGg hg w3 ay hb;have apq:=af.mk (ay);have aGh:=bY HB hg;have aGi:=bY HB hg;replace HB:=dz HB hb;clear hb ay hg;obtain ⟨agl,agm,aoF,aoG,aCS,aCT,aCU,aXj,aXk,agn,agp,aoH,aoI,aCV,aCW,aCX,aXl,aXm⟩:=jS apq.out))
  go_ret
  exact ⟨mJ,gp⟩
 ·rw [if_neg c2] at H
  have ac8:decide (200 < (aX.length:Int)) = false:=decide_eq_false c2
  have aXi:decide (200 < aX.length) = false:=decide_eq_false (by omega)
  clear c2
  obtain rfl:=bh H
  go_enter Try.func22,Try.ntmps22
  go_wp2_with (first|((with_reducible refine av (N:=1) rfl ?_);(try (refine pU (by rfl) ?_;dsimp only));refine ak (by rfl) (N:=1) (by rfl) (cs:=#[Z ab ai,Z ab aj,Z ab az,Z ab aA,Z ab aI,Z ab aD,Z ab aJ,.slice dY aX.length dS,.slice dV aG.length dU]) (t:=25) fU ?_;intro aGg hg w5 ay hb;have apq:=af.mk (ay);have aGh:=bY HB hg;have aGi:=bY HB hg;replace HB:=dz HB hb;clear hb ay hg;obtain ⟨aCY,aCZ,aC0,aC1,aC2,aC3,aC4,aC5,aC6,aC7,aC8,aC9,aDa,aDb,aDc,aDd,aDe,aDf⟩:=jS apq.out))
  go_ret
  exact ⟨mJ,gp⟩
def aW.f (a0:Int) (a1:Int) (a2:Int):Option (Bool):=if a0 ≥ a1 then (some (decide (a0≤a2))) else (some false)
theorem aW.calls (a0:Int) (a1:Int) (a2:Int) (r:Bool) (w:ao) (h:aW.f a0 a1 a2 = some r):
 Calls Try.prog 112 #[Z ab a0,Z ab a1,Z ab a2] w fun e w'=>e = .returned (.bool r)∧su w w':=by
 have H:(if a0 ≥ a1 then (some (decide (a0≤a2))) else (some false)) = some r:=h
 clear h
 by_cases c4:a0 ≥ a1
 ·rw [if_pos c4] at H
  have rZ:decide (a1≤a0) = true:=decide_eq_true c4
  clear c4
  obtain rfl:=bh H
  go_enter Try.func112,Try.ntmps112
  go_wp2
  go_ret
  exact ⟨om,Xq⟩
 ·rw [if_neg c4] at H
  have rZ:decide (a1≤a0) = false:=decide_eq_false c4
  clear c4
  obtain rfl:=bh H
  go_enter Try.func112,Try.ntmps112
  go_wp2
  go_ret
  exact ⟨om,Xq⟩
def bT.f (ai:Int) (aj:Int):Option (Bool):=if ai≤aj then ((aW.f ai (-1073741824) 1073741824).bind fun t103=>(if t103 = true then ((aW.f aj (-1073741824) 1073741824).bind fun t104=>(some t104)) else (some false))) else (some false)
theorem bT.calls (ai:Int) (aj:Int) (r:Bool) (w:ao) (h:bT.f ai aj = some r):
 Calls Try.prog 111 #[.agg #[Z ab ai,Z ab aj]] w fun e w'=>e = .returned (.bool r)∧Below w.heap.size w w':=by
 have oO:=Try.underlying27
 have HB:=af.mk (Below.refl w.heap.size w)
 have H:(if ai≤aj then ((aW.f ai (-1073741824) 1073741824).bind fun t103=>(if t103 = true then ((aW.f aj (-1073741824) 1073741824).bind fun t104=>(some t104)) else (some false))) else (some false)) = some r:=h
 clear h
 by_cases c2:ai≤aj
 ·rw [if_pos c2] at H
  have ac8:decide (ai≤aj) = true:=decide_eq_true c2
  clear c2
  replace H:=Option.bind_eq_some_iff.mp H
  obtain ⟨t103,PS,H⟩:=H
  replace H:(if t103 = true then ((aW.f aj (-1073741824) 1073741824).bind fun t104=>(some t104)) else (some false)) = some r:=H
  have A3:=af.mk PS
  clear PS
  by_cases c4:t103 = true
  ·subst c4
   have H1:((aW.f aj (-1073741824) 1073741824).bind fun t104=>(some t104)) = some r:=by rw [if_pos rfl] at H;exact H
   clear H
   have H:=H1
   clear H1
   replace H:=Option.bind_eq_some_iff.mp H
   obtain ⟨t104,VW,H⟩:=H
   replace H:(some t104) = some r:=H
   have A5:=af.mk VW
   clear VW
   obtain rfl:=bh H
   go_enter Try.func111,Try.ntmps111
   go_wp2_with (first|((with_reducible refine av (N:=1) rfl ?_);refine ak (by rfl) (N:=1) (by rfl) (cs:=#[Z ab ai,Z ab aj]) (t:=27) fU ?_;intro az2 hg w6 ay hb;have ael:=af.mk (ay);have az3:=bY HB hg;have az4:=bY HB hg;replace HB:=dz HB hb;clear hb ay hg;obtain ⟨wD,wE,wF,wG⟩:=iQ ael.out)|(go_at_call 112;(with_reducible refine (aW.calls ai (-1073741824) 1073741824 true _ A3.out).mono ?_);rintro e w' ⟨rfl,⟨nd,rfl⟩⟩)|(go_at_call 112;(with_reducible refine (aW.calls aj (-1073741824) 1073741824 t104 _ A5.out).mono ?_);rintro e w' ⟨rfl,⟨nd,rfl⟩⟩))
   go_ret
   exact ⟨mJ,gp⟩
  ·replace c4:=Bool.eq_false_iff.mpr c4
   subst c4
   have H1:(some false) = some r:=by rw [if_neg (show ¬ (false = true) by decide)] at H;exact H
   clear H
   have H:=H1
   clear H1
   obtain rfl:=bh H
   go_enter Try.func111,Try.ntmps111
   go_wp2_with (first|((with_reducible refine av (N:=1) rfl ?_);refine ak (by rfl) (N:=1) (by rfl) (cs:=#[Z ab ai,Z ab aj]) (t:=27) fU ?_;intro az2 hg w8 ay hb;have ael:=af.mk (ay);have az3:=bY HB hg;have az4:=bY HB hg;replace HB:=dz HB hb;clear hb ay hg;obtain ⟨yB,yC,yD,yE⟩:=iQ ael.out)|(go_at_call 112;(with_reducible refine (aW.calls ai (-1073741824) 1073741824 false _ A3.out).mono ?_);rintro e w' ⟨rfl,⟨nd,rfl⟩⟩))
   go_ret
   exact ⟨mJ,gp⟩
 ·rw [if_neg c2] at H
  have ac8:decide (ai≤aj) = false:=decide_eq_false c2
  clear c2
  obtain rfl:=bh H
  go_enter Try.func111,Try.ntmps111
  go_wp2_with (first|((with_reducible refine av (N:=1) rfl ?_);refine ak (by rfl) (N:=1) (by rfl) (cs:=#[Z ab ai,Z ab aj]) (t:=27) fU ?_;intro az2 hg w10 ay hb;have ael:=af.mk (ay);have az3:=bY HB hg;have az4:=bY HB hg;replace HB:=dz HB hb;clear hb ay hg;obtain ⟨uf,ug,uh,ui⟩:=iQ ael.out))
  go_ret
  exact ⟨mJ,gp⟩
def bG.f (ai:Int) (aj:Int) (a1:Int) (a2:Int):Option (Bool):=(bT.f ai aj).bind fun t106=>(if t106 = true then (if ai ≥ a1 then (some (decide (aj≤a2))) else (some false)) else (some false))
theorem bG.calls (ai:Int) (aj:Int) (a1:Int) (a2:Int) (r:Bool) (w:ao) (h:bG.f ai aj a1 a2 = some r):
 Calls Try.prog 78 #[.agg #[Z ab ai,Z ab aj],Z ab a1,Z ab a2] w fun e w'=>e = .returned (.bool r)∧Below w.heap.size w w':=by
 have oO:=Try.underlying27
 have HB:=af.mk (Below.refl w.heap.size w)
 have H:((bT.f ai aj).bind fun t106=>(if t106 = true then (if ai ≥ a1 then (some (decide (aj≤a2))) else (some false)) else (some false))) = some r:=h
 clear h
 replace H:=Option.bind_eq_some_iff.mp H
 obtain ⟨t106,ME,H⟩:=H
 replace H:(if t106 = true then (if ai ≥ a1 then (some (decide (aj≤a2))) else (some false)) else (some false)) = some r:=H
 have A4:=af.mk ME
 clear ME
 by_cases c5:t106 = true
 ·subst c5
  have H1:(if ai ≥ a1 then (some (decide (aj≤a2))) else (some false)) = some r:=by rw [if_pos rfl] at H;exact H
  clear H
  have H:=H1
  clear H1
  by_cases c6:ai ≥ a1
  ·rw [if_pos c6] at H
   have Du:decide (a1≤ai) = true:=decide_eq_true c6
   clear c6
   obtain rfl:=bh H
   go_enter Try.func78,Try.ntmps78
   go_wp2_with (first|((with_reducible refine av (N:=3) rfl ?_);refine ak (by rfl) (N:=3) (by rfl) (cs:=#[Z ab ai,Z ab aj]) (t:=27) fU ?_;intro az5 hg w7 ay hb;have FM:=af.mk (ay);have az6:=bY HB hg;have az7:=bY HB hg;replace HB:=dz HB hb;clear hb ay hg;obtain ⟨P9,Qa,Qb,Qc⟩:=iQ FM.out)|((with_reducible refine aU (f:=111) rfl ?_);refine dn (some 8) rfl rfl Try.func111 aT rfl #[.agg #[Z ab ai,Z ab aj]] rfl jB ?_;(with_reducible refine (bT.calls ai aj true _ A4.out).mono ?_);rintro e w9 ⟨rfl,hb⟩;refine ⟨_,rfl,?_⟩;replace FM:=bn FM hb;replace HB:=dz HB hb;(try clear hb);(try clear hb2);(try clear hk);(try clear hi);obtain ⟨sP,sQ,sS,sU⟩:=iQ FM.out))
   go_ret
   exact ⟨mJ,gp⟩
  ·rw [if_neg c6] at H
   have Du:decide (a1≤ai) = false:=decide_eq_false c6
   clear c6
   obtain rfl:=bh H
   go_enter Try.func78,Try.ntmps78
   go_wp2_with (first|((with_reducible refine av (N:=3) rfl ?_);refine ak (by rfl) (N:=3) (by rfl) (cs:=#[Z ab ai,Z ab aj]) (t:=27) fU ?_;intro az5 hg w11 ay hb;have FM:=af.mk (ay);have az6:=bY HB hg;have az7:=bY HB hg;replace HB:=dz HB hb;clear hb ay hg;obtain ⟨qa,qb,qc,qd⟩:=iQ FM.out)|((with_reducible refine aU (f:=111) rfl ?_);refine dn (some 8) rfl rfl Try.func111 aT rfl #[.agg #[Z ab ai,Z ab aj]] rfl jB ?_;(with_reducible refine (bT.calls ai aj true _ A4.out).mono ?_);rintro e GK ⟨rfl,hb⟩;refine ⟨_,rfl,?_⟩;replace FM:=bn FM hb;replace HB:=dz HB hb;(try clear hb);(try clear hb2);(try clear hk);(try clear hi);obtain ⟨AY,AZ,Ba,Bb⟩:=iQ FM.out))
   go_ret
   exact ⟨mJ,gp⟩
 ·replace c5:=Bool.eq_false_iff.mpr c5
  subst c5
  have H1:(some false) = some r:=by rw [if_neg (show ¬ (false = true) by decide)] at H;exact H
  clear H
  have H:=H1
  clear H1
  obtain rfl:=bh H
  go_enter Try.func78,Try.ntmps78
  go_wp2_with (first|((with_reducible refine av (N:=3) rfl ?_);refine ak (by rfl) (N:=3) (by rfl) (cs:=#[Z ab ai,Z ab aj]) (t:=27) fU ?_;intro az5 hg w15 ay hb;have FM:=af.mk (ay);have az6:=bY HB hg;have az7:=bY HB hg;replace HB:=dz HB hb;clear hb ay hg;obtain ⟨Zn,Zo,Zp,Zq⟩:=iQ FM.out)|((with_reducible refine aU (f:=111) rfl ?_);refine dn (some 8) rfl rfl Try.func111 aT rfl #[.agg #[Z ab ai,Z ab aj]] rfl jB ?_;(with_reducible refine (bT.calls ai aj false _ A4.out).mono ?_);rintro e DC ⟨rfl,hb⟩;refine ⟨_,rfl,?_⟩;replace FM:=bn FM hb;replace HB:=dz HB hb;(try clear hb);(try clear hb2);(try clear hk);(try clear hi)))
  go_ret
  exact ⟨mJ,gp⟩
end Go.Proofs.Ytmhaiihjfgfaoaa.Pr
end
