import Derived.Test.YtmhaiihjfgfaoaaGnGliderNever3
import Derived.Test.YtmhaiihjfgfaoaaGnGliderNever9
import Derived.Test.YtmhaiihjfgfaoaaGnGliderNever12
open Go.Value renaming int → Z
open Go.IntKind renaming i64 → ab
open Bool renaming true → ac, false → al
section
namespace Go.Proofs.Ytmhaiihjfgfaoaa.Gl
open Go.RowKit Go.Shelf Go.Proofs.YtmhaiihjfgfaoaaW.PrintWords Go.Proofs.YtmhaiihjfgfaoaaW.PrintLast Go.Proofs.YtmhaiihjfgfaoaaW.PrintMore Go.Proofs.Ytmhaiihjfgfaoaa.Pr Go.Proofs.YtmhaiihjfgfaoaaW.Round
set_option linter.unusedVariables false
set_option linter.unusedSimpArgs false
attribute [local go_sem] dw dx dM dN dz
def Cf (h:Int):Int × Int:=if h = 0 then (0,1000) else if h = 1 then (707,707) else if h = 2 then (1000,0) else if h = 3 then (707,-707) else if h = 4 then (0,-1000) else if h = 5 then (-707,-707) else if h = 6 then (-1000,0) else if h = 7 then (-707,707) else if h = 8 then (0,0) else (0,0)
theorem LP (h:Int):(-1000≤(Cf h).1∧(Cf h).1≤1000)∧(-1000≤(Cf h).2∧(Cf h).2≤1000):=by
 unfold Cf
 repeat' split
 all_goals decide
set_option maxRecDepth 100000 in
set_option maxHeartbeats 2000000 in
theorem Yp (w:World):Calls Try.prog 130 #[] w (oo (.agg #[Z ab 0,Z ab 1000,Z ab 707,Z ab 707,Z ab 1000,Z ab 0,Z ab 707,Z ab (-707),Z ab 0,Z ab (-1000),Z ab (-707),Z ab (-707),Z ab (-1000),Z ab 0,Z ab (-707),Z ab 707,Z ab 0,Z ab 0]) w):=by
 have aq1:=Try.underlying162
 have aq2:=Try.underlying161
 go_enter Try.func130,Try.ntmps130
 go_wp2
 exact bodyPost_ret (results_cell_row rfl _ _ w.heap.size 162 #[Z ab 0,Z ab 1000,Z ab 707,Z ab 707,Z ab 1000,Z ab 0,Z ab 707,Z ab (-707),Z ab 0,Z ab (-1000),Z ab (-707),Z ab (-707),Z ab (-1000),Z ab 0,Z ab (-707),Z ab 707,Z ab 0,Z ab 0] (0,0) _ rfl (bB w _) Try.underlying162 rfl aT) rfl ⟨rfl,ai (Below.refl _ w) _⟩
def jl (s:fT) (v:iw) (x rb:cZ) (t heading layer:Int):cZ:=⟨jG v.dive x.f0 ((Cf heading).1*v.speed) (R8 s rb layer t (t+v.dive)).f0,jG v.dive x.f1 ((Cf heading).2*v.speed) (R8 s rb layer t (t+v.dive)).f1⟩
set_option maxRecDepth 100000 in
set_option maxHeartbeats 8000000 in
theorem PR (b:Nat) (se:fT) (v:iw) (x rb:cZ) (t hd layer:Int) (w:World) (hT:dZ w b se v) (hS:Fg se) (hV:uF v) (hcu:(se.currents.length:Int) = se.slots*se.layers*(se.nx*se.ny)) (hcb:aoY se) (hx:Cc x) (hr:R6 se rb) (ht0:0≤t) (ht2:t+v.dive≤se.slots*se.slot) (hh0:0≤hd) (hh1:hd≤8) (hl0:0≤layer) (hl1:layer < se.layers):
 Calls Try.prog 101 #[.pointer (some ⟨b,0,none⟩),.agg #[Z ab x.f0.f0,Z ab x.f0.f1,Z ab x.f1.f0,Z ab x.f1.f1],.agg #[Z ab rb.f0.f0,Z ab rb.f0.f1,Z ab rb.f1.f0,Z ab rb.f1.f1],Z ab t,.agg #[Z ab hd,Z ab layer]] w (oo (.agg #[Z ab (jl se v x rb t hd layer).f0.f0,Z ab (jl se v x rb t hd layer).f0.f1,Z ab (jl se v x rb t hd layer).f1.f0,Z ab (jl se v x rb t hd layer).f1.f1]) w):=by
 have pG:=Try.underlying31
 have mE:=Try.underlying27
 have aq2:=Try.underlying161
 have aq1:=Try.underlying162
 have F5:=Try.underlying33
 have hdv:=hV.dive
 have hsp:=hV.speed
 have hss:=jy (show 0≤se.slots by have:=hS.slots;omega) hS.slots.2 (show 0≤se.slot by have:=hS.slot;omega) hS.slot.2
 have hix:∀ W_:World,(Instr.index 162 (.agg #[Z ab 0,Z ab 1000,Z ab 707,Z ab 707,Z ab 1000,Z ab 0,Z ab 707,Z ab (-707),Z ab 0,Z ab (-1000),Z ab (-707),Z ab (-707),Z ab (-1000),Z ab 0,Z ab (-707),Z ab 707,Z ab 0,Z ab 0]) (Z ab hd)).run Try.prog W_ = .ok (.agg #[Z ab (Cf hd).1,Z ab (Cf hd).2]) W_:=by
  have h9:hd = 0∨hd = 1∨hd = 2∨hd = 3∨hd = 4∨hd = 5∨hd = 6∨hd = 7∨hd = 8:=by omega
  rcases h9 with rfl|rfl|rfl|rfl|rfl|rfl|rfl|rfl|rfl <;> exact fun W_=>by kernel_rfl
 have hdi:=LP hd
 have hai:=adp hcb rb layer t (t+v.dive)
 have kA:=fun u_ (hu_:u_ = t+v.dive) W (h:dZ W b se v)=>aoV b se v rb layer t u_ W h hS hr hcu hl0 hl1 ht0 (by omega) (by omega)
 have hyy:∀ u_,u_ = t+v.dive→R8 se rb layer t u_ = R8 se rb layer t (t+v.dive):=fun u_ h=>by rw [h]
 have HR:Hid (jl se v x rb t hd layer = ⟨jG v.dive x.f0 ((Cf hd).1*v.speed) (R8 se rb layer t (t+v.dive)).f0,jG v.dive x.f1 ((Cf hd).2*v.speed) (R8 se rb layer t (t+v.dive)).f1⟩):=Lib.hid rfl
 have kA:=fun u_ (hu_:u_ = t+v.dive) W (h:dZ W b se v)=>by have h1:=kA u_ hu_ W h;rw [hyy u_ hu_] at h1;exact h1
 clear hyy
 generalize R8 se rb layer t (t+v.dive) = y at*
 generalize Cf hd = d at*
 obtain ⟨d0,d1⟩:=d
 dsimp only at hdi hix HR
 have m0:=iP (a:=d0) (b:=v.speed) (m:=1000) (n:=5000) hdi.1.1 hdi.1.2 hsp.1 hsp.2 (by omega)
 have m1:=iP (a:=d1) (b:=v.speed) (m:=1000) (n:=5000) hdi.2.1 hdi.2.2 hsp.1 hsp.2 (by omega)
 have kS0:=fun z_ (hz_:z_ = d0*v.speed) W (h:dZ W b se v)=>R9 b se v x.f0 z_ y.f0 W h hV hx.1 hx.2.1 (by omega) hai.1 hai.2.1
 have kS1:=fun z_ (hz_:z_ = d1*v.speed) W (h:dZ W b se v)=>R9 b se v x.f1 z_ y.f1 W h hV hx.2.2.1 hx.2.2.2 (by omega) hai.2.2.1 hai.2.2.2.1
 have hT0:=hT
 obtain ⟨A7,c7,A8,c8,mT,_⟩:=hT0
 have w1:wrap64 (t+v.dive) = t+v.dive:=by unfold wrap64;omega
 have w2:wrap64 (d0*v.speed) = d0*v.speed:=by unfold wrap64;omega
 have w3:wrap64 (d1*v.speed) = d1*v.speed:=by unfold wrap64;omega
 clear hx hr hS hV hcu hcb hai hdi hss m0 m1 hdv hsp ht0 ht2 hh0 hh1 hl0 hl1
 go_enter Try.func101,Try.ntmps101
 go_wp2_with fail
 have mF:=aD mT
 have m6:aZ ((((w.alloc (.cells #[Z ab x.f0.f0,Z ab x.f0.f1,Z ab x.f1.f0,Z ab x.f1.f1] 31)).alloc (.cells #[Z ab rb.f0.f0,Z ab rb.f0.f1,Z ab rb.f1.f0,Z ab rb.f1.f1] 31)).alloc (.cells #[Z ab hd,Z ab layer] 33)).alloc (.cells #[Z ab 0,Z ab 0,Z ab 0,Z ab 0] 31)) (w.heap.size) #[Z ab x.f0.f0,Z ab x.f0.f1,Z ab x.f1.f0,Z ab x.f1.f1] 31:=(aa (aa (aa afR _) _) _)
 have m7:aZ ((((w.alloc (.cells #[Z ab x.f0.f0,Z ab x.f0.f1,Z ab x.f1.f0,Z ab x.f1.f1] 31)).alloc (.cells #[Z ab rb.f0.f0,Z ab rb.f0.f1,Z ab rb.f1.f0,Z ab rb.f1.f1] 31)).alloc (.cells #[Z ab hd,Z ab layer] 33)).alloc (.cells #[Z ab 0,Z ab 0,Z ab 0,Z ab 0] 31)) (w.heap.size+1) #[Z ab rb.f0.f0,Z ab rb.f0.f1,Z ab rb.f1.f0,Z ab rb.f1.f1] 31:=(aa (aa (by have h_:=bB (w.alloc (.cells #[Z ab x.f0.f0,Z ab x.f0.f1,Z ab x.f1.f0,Z ab x.f1.f1] 31)) (.cells #[Z ab rb.f0.f0,Z ab rb.f0.f1,Z ab rb.f1.f0,Z ab rb.f1.f1] 31);first|exact h_|(simp only [World.size_alloc] at h_;exact h_)) _) _)
 have m9:aZ ((((w.alloc (.cells #[Z ab x.f0.f0,Z ab x.f0.f1,Z ab x.f1.f0,Z ab x.f1.f1] 31)).alloc (.cells #[Z ab rb.f0.f0,Z ab rb.f0.f1,Z ab rb.f1.f0,Z ab rb.f1.f1] 31)).alloc (.cells #[Z ab hd,Z ab layer] 33)).alloc (.cells #[Z ab 0,Z ab 0,Z ab 0,Z ab 0] 31)) (w.heap.size+1+1) #[Z ab hd,Z ab layer] 33:=(aa (by have h_:=bB ((w.alloc (.cells #[Z ab x.f0.f0,Z ab x.f0.f1,Z ab x.f1.f0,Z ab x.f1.f1] 31)).alloc (.cells #[Z ab rb.f0.f0,Z ab rb.f0.f1,Z ab rb.f1.f0,Z ab rb.f1.f1] 31)) (.cells #[Z ab hd,Z ab layer] 33);first|exact h_|(simp only [World.size_alloc] at h_;exact h_)) _)
 have m10:aZ ((((w.alloc (.cells #[Z ab x.f0.f0,Z ab x.f0.f1,Z ab x.f1.f0,Z ab x.f1.f1] 31)).alloc (.cells #[Z ab rb.f0.f0,Z ab rb.f0.f1,Z ab rb.f1.f0,Z ab rb.f1.f1] 31)).alloc (.cells #[Z ab hd,Z ab layer] 33)).alloc (.cells #[Z ab 0,Z ab 0,Z ab 0,Z ab 0] 31)) (w.heap.size+1+1+1) #[Z ab 0,Z ab 0,Z ab 0,Z ab 0] 31:=(by have h_:=bB (((w.alloc (.cells #[Z ab x.f0.f0,Z ab x.f0.f1,Z ab x.f1.f0,Z ab x.f1.f1] 31)).alloc (.cells #[Z ab rb.f0.f0,Z ab rb.f0.f1,Z ab rb.f1.f0,Z ab rb.f1.f1] 31)).alloc (.cells #[Z ab hd,Z ab layer] 33)) (.cells #[Z ab 0,Z ab 0,Z ab 0,Z ab 0] 31);first|exact h_|(simp only [World.size_alloc] at h_;exact h_))
 replace mT:aZ ((((w.alloc (.cells #[Z ab x.f0.f0,Z ab x.f0.f1,Z ab x.f1.f0,Z ab x.f1.f1] 31)).alloc (.cells #[Z ab rb.f0.f0,Z ab rb.f0.f1,Z ab rb.f1.f0,Z ab rb.f1.f1] 31)).alloc (.cells #[Z ab hd,Z ab layer] 33)).alloc (.cells #[Z ab 0,Z ab 0,Z ab 0,Z ab 0] 31)) b #[Z ab se.nx,Z ab se.ny,Z ab se.cell,Z ab se.slot,Z ab se.slots,Z ab se.layers,Z ab se.most,.slice A7 se.shores.length c7,.slice A8 se.currents.length c8,Z ab v.speed,Z ab v.dive,Z ab v.use.f0,Z ab v.use.f1,Z ab v.drift.f0,Z ab v.drift.f1,Z ab v.reserve] 110:=(aa (aa (aa (aa mT _) _) _) _)
 have mB:Below w.heap.size w ((((w.alloc (.cells #[Z ab x.f0.f0,Z ab x.f0.f1,Z ab x.f1.f0,Z ab x.f1.f1] 31)).alloc (.cells #[Z ab rb.f0.f0,Z ab rb.f0.f1,Z ab rb.f1.f0,Z ab rb.f1.f1] 31)).alloc (.cells #[Z ab hd,Z ab layer] 33)).alloc (.cells #[Z ab 0,Z ab 0,Z ab 0,Z ab 0] 31)):=(ai (ai (ai (ai (Below.refl w.heap.size w) _) _) _) _)
 have dU:w.heap.size≤w.heap.size:=Nat.le_refl _
 generalize jq:((((w.alloc (.cells #[Z ab x.f0.f0,Z ab x.f0.f1,Z ab x.f1.f0,Z ab x.f1.f1] 31)).alloc (.cells #[Z ab rb.f0.f0,Z ab rb.f0.f1,Z ab rb.f1.f0,Z ab rb.f1.f1] 31)).alloc (.cells #[Z ab hd,Z ab layer] 33)).alloc (.cells #[Z ab 0,Z ab 0,Z ab 0,Z ab 0] 31)) = W1 at mT m6 m7 m9 m10 mB ⊢
 clear jq
 generalize Ye:w.heap.size = g6 at m6 m7 m9 m10 ⊢
 have zC:b≠g6:=by omega
 have PH:g6≠b:=zC.symm
 have RB:w.heap.size≤g6:=by omega
 generalize hg7:g6+1 = g7 at m7 m9 m10 ⊢
 have pq:b≠g7:=by omega
 have ed:g6≠g7:=by omega
 have PS:g7≠b:=pq.symm
 have TG:g7≠g6:=ed.symm
 have hG7:w.heap.size≤g7:=by omega
 generalize hg9:g7+1 = g9 at m9 m10 ⊢
 have Ce:b≠g9:=by omega
 have PQ:g6≠g9:=by omega
 have xS:g7≠g9:=by omega
 have TF:g9≠b:=Ce.symm
 have agU:g9≠g6:=PQ.symm
 have PT:g9≠g7:=xS.symm
 have hG9:w.heap.size≤g9:=by omega
 generalize Tq:g9+1 = g10 at m10 ⊢
 have LK:b≠g10:=by omega
 have jA:g6≠g10:=by omega
 have zN:g7≠g10:=by omega
 have TH:g9≠g10:=by omega
 have adi:g10≠b:=LK.symm
 have LM:g10≠g6:=jA.symm
 have TI:g10≠g7:=zN.symm
 have akG:g10≠g9:=TH.symm
 have lZ:w.heap.size≤g10:=by omega
 clear dU mF
 try clear Tq
 try clear hg9
 try clear hg7
 try clear Ye
 have lC:w.heap.size≤W1.heap.size:=mB.size
 replace mT:=au mT
 replace m6:=au m6
 replace m7:=au m7
 replace m9:=au m9
 replace m10:=au m10
 replace mB:=bf mB
 refine lh (n:=6) (S:=fun w'=>w'.cell? ⟨g9,0,none⟩ = some (Z ab hd)∧w'.cell? ⟨g9,1,none⟩ = some (Z ab layer)) (ds:=[5]) #[al,al,al,al,al,al] aT rfl rfl ⟨((ae m9 0).trans rfl),((ae m9 1).trans rfl)⟩ (fun hHeld=>?_)
 generalize hWd:World.drew _ = Wx at mT m6 m7 m9 m10 mB hHeld ⊢
 clear hWd
 refine dG (i:=1) (N:=some 14) aT ?_
 refine iy (i:=2) (N:=some 15) aT hHeld ?_
 refine agY (σ:=Nat) 1 #[ac,ac,ac,ac,ac,al] (fun s=>[(13,.agg #[Z ab 0,Z ab 1000,Z ab 707,Z ab 707,Z ab 1000,Z ab 0,Z ab 707,Z ab (-707),Z ab 0,Z ab (-1000),Z ab (-707),Z ab (-707),Z ab (-1000),Z ab 0,Z ab (-707),Z ab 707,Z ab 0,Z ab 0]),(16,.agg #[Z ab d0,Z ab d1]),(11,.pointer (some ⟨s,0,none⟩))]) (fun s w'=>aZ w' b #[Z ab se.nx,Z ab se.ny,Z ab se.cell,Z ab se.slot,Z ab se.slots,Z ab se.layers,Z ab se.most,.slice A7 se.shores.length c7,.slice A8 se.currents.length c8,Z ab v.speed,Z ab v.dive,Z ab v.use.f0,Z ab v.use.f1,Z ab v.drift.f0,Z ab v.drift.f1,Z ab v.reserve] 110∧aZ w' g6 #[Z ab x.f0.f0,Z ab x.f0.f1,Z ab x.f1.f0,Z ab x.f1.f1] 31∧aZ w' g7 #[Z ab rb.f0.f0,Z ab rb.f0.f1,Z ab rb.f1.f0,Z ab rb.f1.f1] 31∧aZ w' g9 #[Z ab hd,Z ab layer] 33∧aZ w' g10 #[Z ab 0,Z ab 0,Z ab 0,Z ab 0] 31∧aZ w' (s) #[Z ab 0,Z ab 0] 161∧Below w.heap.size w w'∧w.heap.size≤s∧b≠s∧g6≠s∧g7≠s∧g9≠s∧g10≠s) ?_ ?_
 rotate_left
 ·intro hCont
  refine akH (i:=0) (j:=4) (Ni:=some 13) (Nj:=some 11) #[ac,ac,ac,al,al,al] #[al,ac,ac,al,ac,al] rfl rfl rfl rfl aT (by decide) (by decide) (fun K hK=>?_) (fun K hK=>?_)
  ·skip
   have eG:=Yp (Wx)
   refine jm Try.func130 aT rfl #[] (by rfl) rfl rfl (by simp only [List.map_toArray,List.map_cons,List.map_nil]) ?_
   with_reducible refine (eG).mono ?_
   rintro e w0 ⟨rfl,hb⟩
   refine ⟨_,rfl,?_⟩
   clear eG
   replace mT:=af mT hb
   replace m6:=af m6 hb
   replace m7:=af m7 hb
   replace m9:=af m9 hb
   replace m10:=af m10 hb
   replace mB:=aJ mB hb
   clear hb
   refine hK.out _ _ ⟨((ae m9 0).trans rfl),((ae m9 1).trans rfl)⟩ (fun hHeld=>?_)
   clear hK K
   refine dY aq3 ?_
   refine iy (i:=3) (N:=some 16) aT hHeld ?_
   refine jC (i:=4) (N:=some 11) #[ac,ac,ac,ac,ac,al] rfl rfl aT (by decide) (fun K hK=>?_)
   have pV:b≠w0.heap.size:=by have h_:=aD mT;omega
   have pW:g6≠w0.heap.size:=by have h_:=aD m6;omega
   have nN:g7≠w0.heap.size:=by have h_:=aD m7;omega
   have qy:g9≠w0.heap.size:=by have h_:=aD m9;omega
   have yw:g10≠w0.heap.size:=by have h_:=aD m10;omega
   have PU:w.heap.size≤w0.heap.size:=by have h_:=mB.size;omega
   replace mT:=aa mT (.cells #[Z ab 0,Z ab 0] 161)
   replace m6:=aa m6 (.cells #[Z ab 0,Z ab 0] 161)
   replace m7:=aa m7 (.cells #[Z ab 0,Z ab 0] 161)
   replace m9:=aa m9 (.cells #[Z ab 0,Z ab 0] 161)
   replace m10:=aa m10 (.cells #[Z ab 0,Z ab 0] 161)
   have m11:aZ (w0.alloc (.cells #[Z ab 0,Z ab 0] 161)) (w0.heap.size) #[Z ab 0,Z ab 0] 161:=by have h_:=bB w0 (.cells #[Z ab 0,Z ab 0] 161);first|exact h_|(simp only [World.size_alloc] at h_;exact h_)
   replace mB:=ai mB (.cells #[Z ab 0,Z ab 0] 161)
   refine zL (w1:=?_) (v:=?_) (by rfl) rfl ?_ ?_
   rotate_left 2
   ·go_simp
    constructor
    ·rfl
    ·rfl
   refine hK.out _ _ ⟨((ae m9 0).trans rfl),((ae m9 1).trans rfl)⟩ (fun hHeld=>?_)
   clear hK K
   refine dY aq4 ?_
   exact dY akI (hCont (w0.heap.size) _ ⟨mT,m6,m7,m9,m10,m11,mB,PU,pV,pW,nN,qy,yw⟩)
  ·skip
   have pV:b≠Wx.heap.size:=by have h_:=aD mT;omega
   have pW:g6≠Wx.heap.size:=by have h_:=aD m6;omega
   have nN:g7≠Wx.heap.size:=by have h_:=aD m7;omega
   have qy:g9≠Wx.heap.size:=by have h_:=aD m9;omega
   have yw:g10≠Wx.heap.size:=by have h_:=aD m10;omega
   have PU:w.heap.size≤Wx.heap.size:=by have h_:=mB.size;omega
   replace mT:=aa mT (.cells #[Z ab 0,Z ab 0] 161)
   replace m6:=aa m6 (.cells #[Z ab 0,Z ab 0] 161)
   replace m7:=aa m7 (.cells #[Z ab 0,Z ab 0] 161)
   replace m9:=aa m9 (.cells #[Z ab 0,Z ab 0] 161)
   replace m10:=aa m10 (.cells #[Z ab 0,Z ab 0] 161)
   have m11:aZ (Wx.alloc (.cells #[Z ab 0,Z ab 0] 161)) (Wx.heap.size) #[Z ab 0,Z ab 0] 161:=by have h_:=bB Wx (.cells #[Z ab 0,Z ab 0] 161);first|exact h_|(simp only [World.size_alloc] at h_;exact h_)
   replace mB:=ai mB (.cells #[Z ab 0,Z ab 0] 161)
   refine zL (w1:=?_) (v:=?_) (by rfl) rfl ?_ ?_
   rotate_left 2
   ·go_simp
    constructor
    ·rfl
    ·rfl
   refine hK.out _ _ ⟨((ae m9 0).trans rfl),((ae m9 1).trans rfl)⟩ (fun hHeld=>?_)
   clear hK K
   refine dY aq4 ?_
   refine jC (i:=0) (N:=some 13) #[ac,ac,ac,al,ac,al] rfl rfl aT (by decide) (fun K hK=>?_)
   have eG:=Yp ((Wx.alloc (.cells #[Z ab 0,Z ab 0] 161)))
   refine jm Try.func130 aT rfl #[] (by rfl) rfl rfl (by simp only [List.map_toArray,List.map_cons,List.map_nil]) ?_
   with_reducible refine (eG).mono ?_
   rintro e w0 ⟨rfl,hb⟩
   refine ⟨_,rfl,?_⟩
   clear eG
   replace mT:=af mT hb
   replace m6:=af m6 hb
   replace m7:=af m7 hb
   replace m9:=af m9 hb
   replace m10:=af m10 hb
   replace m11:=af m11 hb
   replace mB:=aJ mB hb
   clear hb
   refine hK.out _ _ ⟨((ae m9 0).trans rfl),((ae m9 1).trans rfl)⟩ (fun hHeld=>?_)
   clear hK K
   refine dY aq3 ?_
   refine iy (i:=3) (N:=some 16) aT hHeld ?_
   exact dY akI (hCont (Wx.heap.size) _ ⟨mT,m6,m7,m9,m10,m11,mB,PU,pV,pW,nN,qy,yw⟩)
 rintro g11 Wg ⟨mT,m6,m7,m9,m10,m11,mB,PU,pV,pW,nN,qy,yw⟩
 have hHeld:(Wg.cell? ⟨g9,0,none⟩ = some (Z ab hd)∧Wg.cell? ⟨g9,1,none⟩ = some (Z ab layer)):=⟨((ae m9 0).trans rfl),((ae m9 1).trans rfl)⟩
 refine dY (a':=?_) ?_ ?_
 rotate_left
 ·simp only [zO,Act.put,List.setIfInBounds_toArray,List.set_cons_zero,List.set_cons_succ]
  rfl
 refine yt (i:=5) (N:=none) #[ac,ac,ac,ac,ac,ac] rfl rfl aT (by decide) (fun K hK=>?_)
 have Cb:=aK m11 0
 have zM:=(ae m11 0).trans rfl
 have Fs:=aK m11 1
 have Fu:=(ae m11 1).trans rfl
 refine qp (w1:=?_) (by rfl) rfl ?_ ?_
 rotate_left
 ·go_simp
  rfl
 clear Cb zM Fs Fu
 replace mT:aZ (Wg.setCell ⟨g11,0,none⟩ (Z ab d0)) b #[Z ab se.nx,Z ab se.ny,Z ab se.cell,Z ab se.slot,Z ab se.slots,Z ab se.layers,Z ab se.most,.slice A7 se.shores.length c7,.slice A8 se.currents.length c8,Z ab v.speed,Z ab v.dive,Z ab v.use.f0,Z ab v.use.f1,Z ab v.drift.f0,Z ab v.drift.f1,Z ab v.reserve] 110:=ah (p:=⟨g11,0,none⟩) mT pV _
 replace m6:aZ (Wg.setCell ⟨g11,0,none⟩ (Z ab d0)) g6 #[Z ab x.f0.f0,Z ab x.f0.f1,Z ab x.f1.f0,Z ab x.f1.f1] 31:=ah (p:=⟨g11,0,none⟩) m6 pW _
 replace m7:aZ (Wg.setCell ⟨g11,0,none⟩ (Z ab d0)) g7 #[Z ab rb.f0.f0,Z ab rb.f0.f1,Z ab rb.f1.f0,Z ab rb.f1.f1] 31:=ah (p:=⟨g11,0,none⟩) m7 nN _
 replace m9:aZ (Wg.setCell ⟨g11,0,none⟩ (Z ab d0)) g9 #[Z ab hd,Z ab layer] 33:=ah (p:=⟨g11,0,none⟩) m9 qy _
 replace m10:aZ (Wg.setCell ⟨g11,0,none⟩ (Z ab d0)) g10 #[Z ab 0,Z ab 0,Z ab 0,Z ab 0] 31:=ah (p:=⟨g11,0,none⟩) m10 yw _
 replace m11:aZ (Wg.setCell ⟨g11,0,none⟩ (Z ab d0)) g11 #[Z ab d0,Z ab 0] 161:=az m11 0 _ rfl
 replace mB:Below w.heap.size w (Wg.setCell ⟨g11,0,none⟩ (Z ab d0)):=mB.setCell (p:=⟨g11,0,none⟩) PU _
 replace mT:aZ ((Wg.setCell ⟨g11,0,none⟩ (Z ab d0)).setCell ⟨g11,1,none⟩ (Z ab d1)) b #[Z ab se.nx,Z ab se.ny,Z ab se.cell,Z ab se.slot,Z ab se.slots,Z ab se.layers,Z ab se.most,.slice A7 se.shores.length c7,.slice A8 se.currents.length c8,Z ab v.speed,Z ab v.dive,Z ab v.use.f0,Z ab v.use.f1,Z ab v.drift.f0,Z ab v.drift.f1,Z ab v.reserve] 110:=ah (p:=⟨g11,1,none⟩) mT pV _
 replace m6:aZ ((Wg.setCell ⟨g11,0,none⟩ (Z ab d0)).setCell ⟨g11,1,none⟩ (Z ab d1)) g6 #[Z ab x.f0.f0,Z ab x.f0.f1,Z ab x.f1.f0,Z ab x.f1.f1] 31:=ah (p:=⟨g11,1,none⟩) m6 pW _
 replace m7:aZ ((Wg.setCell ⟨g11,0,none⟩ (Z ab d0)).setCell ⟨g11,1,none⟩ (Z ab d1)) g7 #[Z ab rb.f0.f0,Z ab rb.f0.f1,Z ab rb.f1.f0,Z ab rb.f1.f1] 31:=ah (p:=⟨g11,1,none⟩) m7 nN _
 replace m9:aZ ((Wg.setCell ⟨g11,0,none⟩ (Z ab d0)).setCell ⟨g11,1,none⟩ (Z ab d1)) g9 #[Z ab hd,Z ab layer] 33:=ah (p:=⟨g11,1,none⟩) m9 qy _
 replace m10:aZ ((Wg.setCell ⟨g11,0,none⟩ (Z ab d0)).setCell ⟨g11,1,none⟩ (Z ab d1)) g10 #[Z ab 0,Z ab 0,Z ab 0,Z ab 0] 31:=ah (p:=⟨g11,1,none⟩) m10 yw _
 replace m11:aZ ((Wg.setCell ⟨g11,0,none⟩ (Z ab d0)).setCell ⟨g11,1,none⟩ (Z ab d1)) g11 #[Z ab d0,Z ab d1] 161:=az m11 1 _ rfl
 replace mB:Below w.heap.size w ((Wg.setCell ⟨g11,0,none⟩ (Z ab d0)).setCell ⟨g11,1,none⟩ (Z ab d1)):=mB.setCell (p:=⟨g11,1,none⟩) PU _
 refine hK.out _ _ ?_
 clear hK K
 refine ma aT ?_
 try clear hHeld
 generalize jq:((Wg.setCell ⟨g11,0,none⟩ (Z ab d0)).setCell ⟨g11,1,none⟩ (Z ab d1)) = W2 at mT m6 m7 m9 m10 m11 mB ⊢
 clear jq
 have mY:w.heap.size≤W2.heap.size:=mB.size
 go_wp2_with fail
 replace mT:=au mT
 replace m6:=au m6
 replace m7:=au m7
 replace m9:=au m9
 replace m10:=au m10
 replace m11:=au m11
 replace mB:=bf mB
 refine lh (n:=15) (S:=fun w'=>w'.cell? ⟨g7,0,none⟩ = some (Z ab rb.f0.f0)∧w'.cell? ⟨g7,1,none⟩ = some (Z ab rb.f0.f1)∧w'.cell? ⟨g7,2,none⟩ = some (Z ab rb.f1.f0)∧w'.cell? ⟨g7,3,none⟩ = some (Z ab rb.f1.f1)∧w'.cell? ⟨g9,0,none⟩ = some (Z ab hd)∧w'.cell? ⟨g9,1,none⟩ = some (Z ab layer)∧w'.cell? ⟨b,10,none⟩ = some (Z ab v.dive)) (ds:=[14]) #[al,al,al,al,al,al,al,al,al,al,al,al,al,al,al] aT rfl rfl ⟨((ae m7 0).trans rfl),((ae m7 1).trans rfl),((ae m7 2).trans rfl),((ae m7 3).trans rfl),((ae m9 0).trans rfl),((ae m9 1).trans rfl),((ae mT 10).trans rfl)⟩ (fun hHeld=>?_)
 generalize hWd:World.drew _ = Wx at mT m6 m7 m9 m10 m11 mB hHeld ⊢
 clear hWd
 refine dG (i:=0) (N:=some 17) aT ?_
 refine dG (i:=2) (N:=some 19) aT ?_
 refine dG (i:=4) (N:=some 21) aT ?_
 refine dG (i:=5) (N:=some 22) aT ?_
 refine dG (i:=6) (N:=some 23) aT ?_
 refine dG (i:=7) (N:=some 24) aT ?_
 refine dG (i:=8) (N:=some 25) aT ?_
 refine dG (i:=9) (N:=some 26) aT ?_
 refine iy (i:=1) (N:=some 18) aT hHeld ?_
 refine iy (i:=3) (N:=some 20) aT hHeld ?_
 refine iy (i:=10) (N:=some 27) aT hHeld ?_
 refine dG (i:=11) (N:=some 28) aT ?_
 refine agY (σ:=Nat) 1 #[ac,ac,ac,ac,ac,ac,ac,ac,ac,ac,ac,ac,ac,ac,al] (fun s=>[(29,.agg #[Z ab y.f0.f0,Z ab y.f0.f1,Z ab y.f1.f0,Z ab y.f1.f1]),(12,.pointer (some ⟨s,0,none⟩))]) (fun s w'=>aZ w' b #[Z ab se.nx,Z ab se.ny,Z ab se.cell,Z ab se.slot,Z ab se.slots,Z ab se.layers,Z ab se.most,.slice A7 se.shores.length c7,.slice A8 se.currents.length c8,Z ab v.speed,Z ab v.dive,Z ab v.use.f0,Z ab v.use.f1,Z ab v.drift.f0,Z ab v.drift.f1,Z ab v.reserve] 110∧aZ w' g6 #[Z ab x.f0.f0,Z ab x.f0.f1,Z ab x.f1.f0,Z ab x.f1.f1] 31∧aZ w' g7 #[Z ab rb.f0.f0,Z ab rb.f0.f1,Z ab rb.f1.f0,Z ab rb.f1.f1] 31∧aZ w' g9 #[Z ab hd,Z ab layer] 33∧aZ w' g10 #[Z ab 0,Z ab 0,Z ab 0,Z ab 0] 31∧aZ w' g11 #[Z ab d0,Z ab d1] 161∧aZ w' (s) #[Z ab 0,Z ab 0,Z ab 0,Z ab 0] 31∧Below w.heap.size w w'∧w.heap.size≤s∧b≠s∧g6≠s∧g7≠s∧g9≠s∧g10≠s∧g11≠s) ?_ ?_
 rotate_left
 ·intro hCont
  refine akH (i:=12) (j:=13) (Ni:=some 29) (Nj:=some 12) #[ac,ac,ac,ac,ac,ac,ac,ac,ac,ac,ac,ac,ac,al,al] #[ac,ac,ac,ac,ac,ac,ac,ac,ac,ac,ac,ac,al,ac,al] rfl rfl rfl rfl aT (by decide) (by decide) (fun K hK=>?_) (fun K hK=>?_)
  ·skip
   have eG:=kA _ w1 (Wx) (hT.below mB)
   refine jm Try.func70 aT rfl #[.pointer (some ⟨b,0,none⟩),.agg #[Z ab rb.f0.f0,Z ab rb.f0.f1,Z ab rb.f1.f0,Z ab rb.f1.f1],Z ab layer,Z ab t,Z ab (wrap64 (t+v.dive))] (by rfl) rfl rfl ET ?_
   with_reducible refine (eG).mono ?_
   rintro e F6 ⟨rfl,hb⟩
   refine ⟨_,rfl,?_⟩
   clear eG
   replace mT:=af mT hb
   replace m6:=af m6 hb
   replace m7:=af m7 hb
   replace m9:=af m9 hb
   replace m10:=af m10 hb
   replace m11:=af m11 hb
   replace mB:=aJ mB hb
   clear hb
   refine hK.out _ _ ⟨((ae m7 0).trans rfl),((ae m7 1).trans rfl),((ae m7 2).trans rfl),((ae m7 3).trans rfl),((ae m9 0).trans rfl),((ae m9 1).trans rfl),((ae mT 10).trans rfl)⟩ (fun hHeld=>?_)
   clear hK K
   refine dY aq5 ?_
   refine jC (i:=13) (N:=some 12) #[ac,ac,ac,ac,ac,ac,ac,ac,ac,ac,ac,ac,ac,ac,al] rfl rfl aT (by decide) (fun K hK=>?_)
   have nM:b≠F6.heap.size:=by have h_:=aD mT;omega
   have lu:g6≠F6.heap.size:=by have h_:=aD m6;omega
   have qz:g7≠F6.heap.size:=by have h_:=aD m7;omega
   have qA:g9≠F6.heap.size:=by have h_:=aD m9;omega
   have iA:g10≠F6.heap.size:=by have h_:=aD m10;omega
   have lD:g11≠F6.heap.size:=by have h_:=aD m11;omega
   have Fp:w.heap.size≤F6.heap.size:=by have h_:=mB.size;omega
   replace mT:=aa mT (.cells #[Z ab 0,Z ab 0,Z ab 0,Z ab 0] 31)
   replace m6:=aa m6 (.cells #[Z ab 0,Z ab 0,Z ab 0,Z ab 0] 31)
   replace m7:=aa m7 (.cells #[Z ab 0,Z ab 0,Z ab 0,Z ab 0] 31)
   replace m9:=aa m9 (.cells #[Z ab 0,Z ab 0,Z ab 0,Z ab 0] 31)
   replace m10:=aa m10 (.cells #[Z ab 0,Z ab 0,Z ab 0,Z ab 0] 31)
   replace m11:=aa m11 (.cells #[Z ab 0,Z ab 0,Z ab 0,Z ab 0] 31)
   have m12:aZ (F6.alloc (.cells #[Z ab 0,Z ab 0,Z ab 0,Z ab 0] 31)) (F6.heap.size) #[Z ab 0,Z ab 0,Z ab 0,Z ab 0] 31:=by have h_:=bB F6 (.cells #[Z ab 0,Z ab 0,Z ab 0,Z ab 0] 31);first|exact h_|(simp only [World.size_alloc] at h_;exact h_)
   replace mB:=ai mB (.cells #[Z ab 0,Z ab 0,Z ab 0,Z ab 0] 31)
   refine zL (w1:=?_) (v:=?_) (by rfl) rfl ?_ ?_
   rotate_left 2
   ·go_simp
    constructor
    ·rfl
    ·rfl
   refine hK.out _ _ ⟨((ae m7 0).trans rfl),((ae m7 1).trans rfl),((ae m7 2).trans rfl),((ae m7 3).trans rfl),((ae m9 0).trans rfl),((ae m9 1).trans rfl),((ae mT 10).trans rfl)⟩ (fun hHeld=>?_)
   clear hK K
   refine dY aq6 ?_
   exact dY akI (hCont (F6.heap.size) _ ⟨mT,m6,m7,m9,m10,m11,m12,mB,Fp,nM,lu,qz,qA,iA,lD⟩)
  ·skip
   have nM:b≠Wx.heap.size:=by have h_:=aD mT;omega
   have lu:g6≠Wx.heap.size:=by have h_:=aD m6;omega
   have qz:g7≠Wx.heap.size:=by have h_:=aD m7;omega
   have qA:g9≠Wx.heap.size:=by have h_:=aD m9;omega
   have iA:g10≠Wx.heap.size:=by have h_:=aD m10;omega
   have lD:g11≠Wx.heap.size:=by have h_:=aD m11;omega
   have Fp:w.heap.size≤Wx.heap.size:=by have h_:=mB.size;omega
   replace mT:=aa mT (.cells #[Z ab 0,Z ab 0,Z ab 0,Z ab 0] 31)
   replace m6:=aa m6 (.cells #[Z ab 0,Z ab 0,Z ab 0,Z ab 0] 31)
   replace m7:=aa m7 (.cells #[Z ab 0,Z ab 0,Z ab 0,Z ab 0] 31)
   replace m9:=aa m9 (.cells #[Z ab 0,Z ab 0,Z ab 0,Z ab 0] 31)
   replace m10:=aa m10 (.cells #[Z ab 0,Z ab 0,Z ab 0,Z ab 0] 31)
   replace m11:=aa m11 (.cells #[Z ab 0,Z ab 0,Z ab 0,Z ab 0] 31)
   have m12:aZ (Wx.alloc (.cells #[Z ab 0,Z ab 0,Z ab 0,Z ab 0] 31)) (Wx.heap.size) #[Z ab 0,Z ab 0,Z ab 0,Z ab 0] 31:=by have h_:=bB Wx (.cells #[Z ab 0,Z ab 0,Z ab 0,Z ab 0] 31);first|exact h_|(simp only [World.size_alloc] at h_;exact h_)
   replace mB:=ai mB (.cells #[Z ab 0,Z ab 0,Z ab 0,Z ab 0] 31)
   refine zL (w1:=?_) (v:=?_) (by rfl) rfl ?_ ?_
   rotate_left 2
   ·go_simp
    constructor
    ·rfl
    ·rfl
   refine hK.out _ _ ⟨((ae m7 0).trans rfl),((ae m7 1).trans rfl),((ae m7 2).trans rfl),((ae m7 3).trans rfl),((ae m9 0).trans rfl),((ae m9 1).trans rfl),((ae mT 10).trans rfl)⟩ (fun hHeld=>?_)
   clear hK K
   refine dY aq6 ?_
   refine jC (i:=12) (N:=some 29) #[ac,ac,ac,ac,ac,ac,ac,ac,ac,ac,ac,ac,ac,ac,al] rfl rfl aT (by decide) (fun K hK=>?_)
   have eG:=kA _ w1 ((Wx.alloc (.cells #[Z ab 0,Z ab 0,Z ab 0,Z ab 0] 31))) (hT.below mB)
   refine jm Try.func70 aT rfl #[.pointer (some ⟨b,0,none⟩),.agg #[Z ab rb.f0.f0,Z ab rb.f0.f1,Z ab rb.f1.f0,Z ab rb.f1.f1],Z ab layer,Z ab t,Z ab (wrap64 (t+v.dive))] (by rfl) rfl rfl ET ?_
   with_reducible refine (eG).mono ?_
   rintro e F6 ⟨rfl,hb⟩
   refine ⟨_,rfl,?_⟩
   clear eG
   replace mT:=af mT hb
   replace m6:=af m6 hb
   replace m7:=af m7 hb
   replace m9:=af m9 hb
   replace m10:=af m10 hb
   replace m11:=af m11 hb
   replace m12:=af m12 hb
   replace mB:=aJ mB hb
   clear hb
   refine hK.out _ _ ⟨((ae m7 0).trans rfl),((ae m7 1).trans rfl),((ae m7 2).trans rfl),((ae m7 3).trans rfl),((ae m9 0).trans rfl),((ae m9 1).trans rfl),((ae mT 10).trans rfl)⟩ (fun hHeld=>?_)
   clear hK K
   refine dY aq5 ?_
   exact dY akI (hCont (Wx.heap.size) _ ⟨mT,m6,m7,m9,m10,m11,m12,mB,Fp,nM,lu,qz,qA,iA,lD⟩)
 rintro g12 Wg ⟨mT,m6,m7,m9,m10,m11,m12,mB,Fp,nM,lu,qz,qA,iA,lD⟩
 have hHeld:(Wg.cell? ⟨g7,0,none⟩ = some (Z ab rb.f0.f0)∧Wg.cell? ⟨g7,1,none⟩ = some (Z ab rb.f0.f1)∧Wg.cell? ⟨g7,2,none⟩ = some (Z ab rb.f1.f0)∧Wg.cell? ⟨g7,3,none⟩ = some (Z ab rb.f1.f1)∧Wg.cell? ⟨g9,0,none⟩ = some (Z ab hd)∧Wg.cell? ⟨g9,1,none⟩ = some (Z ab layer)∧Wg.cell? ⟨b,10,none⟩ = some (Z ab v.dive)):=⟨((ae m7 0).trans rfl),((ae m7 1).trans rfl),((ae m7 2).trans rfl),((ae m7 3).trans rfl),((ae m9 0).trans rfl),((ae m9 1).trans rfl),((ae mT 10).trans rfl)⟩
 refine dY (a':=?_) ?_ ?_
 rotate_left
 ·simp only [zO,Act.put,List.setIfInBounds_toArray,List.set_cons_zero,List.set_cons_succ]
  rfl
 refine yt (i:=14) (N:=none) #[ac,ac,ac,ac,ac,ac,ac,ac,ac,ac,ac,ac,ac,ac,ac] rfl rfl aT (by decide) (fun K hK=>?_)
 have Cb:=aK m12 0
 have zM:=(ae m12 0).trans rfl
 have Fs:=aK m12 1
 have Fu:=(ae m12 1).trans rfl
 have Ty:=aK m12 2
 have TA:=(ae m12 2).trans rfl
 have Tz:=aK m12 3
 have TB:=(ae m12 3).trans rfl
 refine qp (w1:=?_) (by rfl) rfl ?_ ?_
 rotate_left
 ·go_simp
  rfl
 clear Cb zM Fs Fu Ty TA Tz TB
 replace mT:aZ (Wg.setCell ⟨g12,0,none⟩ (Z ab y.f0.f0)) b #[Z ab se.nx,Z ab se.ny,Z ab se.cell,Z ab se.slot,Z ab se.slots,Z ab se.layers,Z ab se.most,.slice A7 se.shores.length c7,.slice A8 se.currents.length c8,Z ab v.speed,Z ab v.dive,Z ab v.use.f0,Z ab v.use.f1,Z ab v.drift.f0,Z ab v.drift.f1,Z ab v.reserve] 110:=ah (p:=⟨g12,0,none⟩) mT nM _
 replace m6:aZ (Wg.setCell ⟨g12,0,none⟩ (Z ab y.f0.f0)) g6 #[Z ab x.f0.f0,Z ab x.f0.f1,Z ab x.f1.f0,Z ab x.f1.f1] 31:=ah (p:=⟨g12,0,none⟩) m6 lu _
 replace m7:aZ (Wg.setCell ⟨g12,0,none⟩ (Z ab y.f0.f0)) g7 #[Z ab rb.f0.f0,Z ab rb.f0.f1,Z ab rb.f1.f0,Z ab rb.f1.f1] 31:=ah (p:=⟨g12,0,none⟩) m7 qz _
 replace m9:aZ (Wg.setCell ⟨g12,0,none⟩ (Z ab y.f0.f0)) g9 #[Z ab hd,Z ab layer] 33:=ah (p:=⟨g12,0,none⟩) m9 qA _
 replace m10:aZ (Wg.setCell ⟨g12,0,none⟩ (Z ab y.f0.f0)) g10 #[Z ab 0,Z ab 0,Z ab 0,Z ab 0] 31:=ah (p:=⟨g12,0,none⟩) m10 iA _
 replace m11:aZ (Wg.setCell ⟨g12,0,none⟩ (Z ab y.f0.f0)) g11 #[Z ab d0,Z ab d1] 161:=ah (p:=⟨g12,0,none⟩) m11 lD _
 replace m12:aZ (Wg.setCell ⟨g12,0,none⟩ (Z ab y.f0.f0)) g12 #[Z ab y.f0.f0,Z ab 0,Z ab 0,Z ab 0] 31:=az m12 0 _ rfl
 replace mB:Below w.heap.size w (Wg.setCell ⟨g12,0,none⟩ (Z ab y.f0.f0)):=mB.setCell (p:=⟨g12,0,none⟩) Fp _
 replace mT:aZ ((Wg.setCell ⟨g12,0,none⟩ (Z ab y.f0.f0)).setCell ⟨g12,1,none⟩ (Z ab y.f0.f1)) b #[Z ab se.nx,Z ab se.ny,Z ab se.cell,Z ab se.slot,Z ab se.slots,Z ab se.layers,Z ab se.most,.slice A7 se.shores.length c7,.slice A8 se.currents.length c8,Z ab v.speed,Z ab v.dive,Z ab v.use.f0,Z ab v.use.f1,Z ab v.drift.f0,Z ab v.drift.f1,Z ab v.reserve] 110:=ah (p:=⟨g12,1,none⟩) mT nM _
 replace m6:aZ ((Wg.setCell ⟨g12,0,none⟩ (Z ab y.f0.f0)).setCell ⟨g12,1,none⟩ (Z ab y.f0.f1)) g6 #[Z ab x.f0.f0,Z ab x.f0.f1,Z ab x.f1.f0,Z ab x.f1.f1] 31:=ah (p:=⟨g12,1,none⟩) m6 lu _
 replace m7:aZ ((Wg.setCell ⟨g12,0,none⟩ (Z ab y.f0.f0)).setCell ⟨g12,1,none⟩ (Z ab y.f0.f1)) g7 #[Z ab rb.f0.f0,Z ab rb.f0.f1,Z ab rb.f1.f0,Z ab rb.f1.f1] 31:=ah (p:=⟨g12,1,none⟩) m7 qz _
 replace m9:aZ ((Wg.setCell ⟨g12,0,none⟩ (Z ab y.f0.f0)).setCell ⟨g12,1,none⟩ (Z ab y.f0.f1)) g9 #[Z ab hd,Z ab layer] 33:=ah (p:=⟨g12,1,none⟩) m9 qA _
 replace m10:aZ ((Wg.setCell ⟨g12,0,none⟩ (Z ab y.f0.f0)).setCell ⟨g12,1,none⟩ (Z ab y.f0.f1)) g10 #[Z ab 0,Z ab 0,Z ab 0,Z ab 0] 31:=ah (p:=⟨g12,1,none⟩) m10 iA _
 replace m11:aZ ((Wg.setCell ⟨g12,0,none⟩ (Z ab y.f0.f0)).setCell ⟨g12,1,none⟩ (Z ab y.f0.f1)) g11 #[Z ab d0,Z ab d1] 161:=ah (p:=⟨g12,1,none⟩) m11 lD _
 replace m12:aZ ((Wg.setCell ⟨g12,0,none⟩ (Z ab y.f0.f0)).setCell ⟨g12,1,none⟩ (Z ab y.f0.f1)) g12 #[Z ab y.f0.f0,Z ab y.f0.f1,Z ab 0,Z ab 0] 31:=az m12 1 _ rfl
 replace mB:Below w.heap.size w ((Wg.setCell ⟨g12,0,none⟩ (Z ab y.f0.f0)).setCell ⟨g12,1,none⟩ (Z ab y.f0.f1)):=mB.setCell (p:=⟨g12,1,none⟩) Fp _
 replace mT:aZ (((Wg.setCell ⟨g12,0,none⟩ (Z ab y.f0.f0)).setCell ⟨g12,1,none⟩ (Z ab y.f0.f1)).setCell ⟨g12,2,none⟩ (Z ab y.f1.f0)) b #[Z ab se.nx,Z ab se.ny,Z ab se.cell,Z ab se.slot,Z ab se.slots,Z ab se.layers,Z ab se.most,.slice A7 se.shores.length c7,.slice A8 se.currents.length c8,Z ab v.speed,Z ab v.dive,Z ab v.use.f0,Z ab v.use.f1,Z ab v.drift.f0,Z ab v.drift.f1,Z ab v.reserve] 110:=ah (p:=⟨g12,2,none⟩) mT nM _
 replace m6:aZ (((Wg.setCell ⟨g12,0,none⟩ (Z ab y.f0.f0)).setCell ⟨g12,1,none⟩ (Z ab y.f0.f1)).setCell ⟨g12,2,none⟩ (Z ab y.f1.f0)) g6 #[Z ab x.f0.f0,Z ab x.f0.f1,Z ab x.f1.f0,Z ab x.f1.f1] 31:=ah (p:=⟨g12,2,none⟩) m6 lu _
 replace m7:aZ (((Wg.setCell ⟨g12,0,none⟩ (Z ab y.f0.f0)).setCell ⟨g12,1,none⟩ (Z ab y.f0.f1)).setCell ⟨g12,2,none⟩ (Z ab y.f1.f0)) g7 #[Z ab rb.f0.f0,Z ab rb.f0.f1,Z ab rb.f1.f0,Z ab rb.f1.f1] 31:=ah (p:=⟨g12,2,none⟩) m7 qz _
 replace m9:aZ (((Wg.setCell ⟨g12,0,none⟩ (Z ab y.f0.f0)).setCell ⟨g12,1,none⟩ (Z ab y.f0.f1)).setCell ⟨g12,2,none⟩ (Z ab y.f1.f0)) g9 #[Z ab hd,Z ab layer] 33:=ah (p:=⟨g12,2,none⟩) m9 qA _
 replace m10:aZ (((Wg.setCell ⟨g12,0,none⟩ (Z ab y.f0.f0)).setCell ⟨g12,1,none⟩ (Z ab y.f0.f1)).setCell ⟨g12,2,none⟩ (Z ab y.f1.f0)) g10 #[Z ab 0,Z ab 0,Z ab 0,Z ab 0] 31:=ah (p:=⟨g12,2,none⟩) m10 iA _
 replace m11:aZ (((Wg.setCell ⟨g12,0,none⟩ (Z ab y.f0.f0)).setCell ⟨g12,1,none⟩ (Z ab y.f0.f1)).setCell ⟨g12,2,none⟩ (Z ab y.f1.f0)) g11 #[Z ab d0,Z ab d1] 161:=ah (p:=⟨g12,2,none⟩) m11 lD _
 replace m12:aZ (((Wg.setCell ⟨g12,0,none⟩ (Z ab y.f0.f0)).setCell ⟨g12,1,none⟩ (Z ab y.f0.f1)).setCell ⟨g12,2,none⟩ (Z ab y.f1.f0)) g12 #[Z ab y.f0.f0,Z ab y.f0.f1,Z ab y.f1.f0,Z ab 0] 31:=az m12 2 _ rfl
 replace mB:Below w.heap.size w (((Wg.setCell ⟨g12,0,none⟩ (Z ab y.f0.f0)).setCell ⟨g12,1,none⟩ (Z ab y.f0.f1)).setCell ⟨g12,2,none⟩ (Z ab y.f1.f0)):=mB.setCell (p:=⟨g12,2,none⟩) Fp _
 replace mT:aZ ((((Wg.setCell ⟨g12,0,none⟩ (Z ab y.f0.f0)).setCell ⟨g12,1,none⟩ (Z ab y.f0.f1)).setCell ⟨g12,2,none⟩ (Z ab y.f1.f0)).setCell ⟨g12,3,none⟩ (Z ab y.f1.f1)) b #[Z ab se.nx,Z ab se.ny,Z ab se.cell,Z ab se.slot,Z ab se.slots,Z ab se.layers,Z ab se.most,.slice A7 se.shores.length c7,.slice A8 se.currents.length c8,Z ab v.speed,Z ab v.dive,Z ab v.use.f0,Z ab v.use.f1,Z ab v.drift.f0,Z ab v.drift.f1,Z ab v.reserve] 110:=ah (p:=⟨g12,3,none⟩) mT nM _
 replace m6:aZ ((((Wg.setCell ⟨g12,0,none⟩ (Z ab y.f0.f0)).setCell ⟨g12,1,none⟩ (Z ab y.f0.f1)).setCell ⟨g12,2,none⟩ (Z ab y.f1.f0)).setCell ⟨g12,3,none⟩ (Z ab y.f1.f1)) g6 #[Z ab x.f0.f0,Z ab x.f0.f1,Z ab x.f1.f0,Z ab x.f1.f1] 31:=ah (p:=⟨g12,3,none⟩) m6 lu _
 replace m7:aZ ((((Wg.setCell ⟨g12,0,none⟩ (Z ab y.f0.f0)).setCell ⟨g12,1,none⟩ (Z ab y.f0.f1)).setCell ⟨g12,2,none⟩ (Z ab y.f1.f0)).setCell ⟨g12,3,none⟩ (Z ab y.f1.f1)) g7 #[Z ab rb.f0.f0,Z ab rb.f0.f1,Z ab rb.f1.f0,Z ab rb.f1.f1] 31:=ah (p:=⟨g12,3,none⟩) m7 qz _
 replace m9:aZ ((((Wg.setCell ⟨g12,0,none⟩ (Z ab y.f0.f0)).setCell ⟨g12,1,none⟩ (Z ab y.f0.f1)).setCell ⟨g12,2,none⟩ (Z ab y.f1.f0)).setCell ⟨g12,3,none⟩ (Z ab y.f1.f1)) g9 #[Z ab hd,Z ab layer] 33:=ah (p:=⟨g12,3,none⟩) m9 qA _
 replace m10:aZ ((((Wg.setCell ⟨g12,0,none⟩ (Z ab y.f0.f0)).setCell ⟨g12,1,none⟩ (Z ab y.f0.f1)).setCell ⟨g12,2,none⟩ (Z ab y.f1.f0)).setCell ⟨g12,3,none⟩ (Z ab y.f1.f1)) g10 #[Z ab 0,Z ab 0,Z ab 0,Z ab 0] 31:=ah (p:=⟨g12,3,none⟩) m10 iA _
 replace m11:aZ ((((Wg.setCell ⟨g12,0,none⟩ (Z ab y.f0.f0)).setCell ⟨g12,1,none⟩ (Z ab y.f0.f1)).setCell ⟨g12,2,none⟩ (Z ab y.f1.f0)).setCell ⟨g12,3,none⟩ (Z ab y.f1.f1)) g11 #[Z ab d0,Z ab d1] 161:=ah (p:=⟨g12,3,none⟩) m11 lD _
 replace m12:aZ ((((Wg.setCell ⟨g12,0,none⟩ (Z ab y.f0.f0)).setCell ⟨g12,1,none⟩ (Z ab y.f0.f1)).setCell ⟨g12,2,none⟩ (Z ab y.f1.f0)).setCell ⟨g12,3,none⟩ (Z ab y.f1.f1)) g12 #[Z ab y.f0.f0,Z ab y.f0.f1,Z ab y.f1.f0,Z ab y.f1.f1] 31:=az m12 3 _ rfl
 replace mB:Below w.heap.size w ((((Wg.setCell ⟨g12,0,none⟩ (Z ab y.f0.f0)).setCell ⟨g12,1,none⟩ (Z ab y.f0.f1)).setCell ⟨g12,2,none⟩ (Z ab y.f1.f0)).setCell ⟨g12,3,none⟩ (Z ab y.f1.f1)):=mB.setCell (p:=⟨g12,3,none⟩) Fp _
 refine hK.out _ _ ?_
 clear hK K
 refine ma aT ?_
 try clear hHeld
 generalize jq:((((Wg.setCell ⟨g12,0,none⟩ (Z ab y.f0.f0)).setCell ⟨g12,1,none⟩ (Z ab y.f0.f1)).setCell ⟨g12,2,none⟩ (Z ab y.f1.f0)).setCell ⟨g12,3,none⟩ (Z ab y.f1.f1)) = W3 at mT m6 m7 m9 m10 m11 m12 mB ⊢
 clear jq
 have uY:w.heap.size≤W3.heap.size:=mB.size
 go_wp2_with fail
 replace mT:=au mT
 replace m6:=au m6
 replace m7:=au m7
 replace m9:=au m9
 replace m10:=au m10
 replace m11:=au m11
 replace m12:=au m12
 replace mB:=bf mB
 refine lh (n:=30) (S:=fun w'=>w'.cell? ⟨g6,0,none⟩ = some (Z ab x.f0.f0)∧w'.cell? ⟨g6,1,none⟩ = some (Z ab x.f0.f1)∧w'.cell? ⟨g6,2,none⟩ = some (Z ab x.f1.f0)∧w'.cell? ⟨g6,3,none⟩ = some (Z ab x.f1.f1)∧w'.cell? ⟨g11,0,none⟩ = some (Z ab d0)∧w'.cell? ⟨g11,1,none⟩ = some (Z ab d1)∧w'.cell? ⟨g12,0,none⟩ = some (Z ab y.f0.f0)∧w'.cell? ⟨g12,1,none⟩ = some (Z ab y.f0.f1)∧w'.cell? ⟨g12,2,none⟩ = some (Z ab y.f1.f0)∧w'.cell? ⟨g12,3,none⟩ = some (Z ab y.f1.f1)∧w'.cell? ⟨b,9,none⟩ = some (Z ab v.speed)) (ds:=[29]) #[al,al,al,al,al,al,al,al,al,al,al,al,al,al,al,al,al,al,al,al,al,al,al,al,al,al,al,al,al,al] aT rfl rfl ⟨((ae m6 0).trans rfl),((ae m6 1).trans rfl),((ae m6 2).trans rfl),((ae m6 3).trans rfl),((ae m11 0).trans rfl),((ae m11 1).trans rfl),((ae m12 0).trans rfl),((ae m12 1).trans rfl),((ae m12 2).trans rfl),((ae m12 3).trans rfl),((ae mT 9).trans rfl)⟩ (fun hHeld=>?_)
 generalize hWd:World.drew _ = Wx at mT m6 m7 m9 m10 m11 m12 mB hHeld ⊢
 clear hWd
 refine dG (i:=0) (N:=some 30) aT ?_
 refine dG (i:=1) (N:=some 31) aT ?_
 refine dG (i:=3) (N:=some 33) aT ?_
 refine dG (i:=5) (N:=some 35) aT ?_
 refine dG (i:=6) (N:=some 36) aT ?_
 refine dG (i:=7) (N:=some 37) aT ?_
 refine dG (i:=8) (N:=some 38) aT ?_
 refine dG (i:=11) (N:=some 41) aT ?_
 refine dG (i:=14) (N:=some 44) aT ?_
 refine dG (i:=15) (N:=some 45) aT ?_
 refine dG (i:=17) (N:=some 47) aT ?_
 refine dG (i:=19) (N:=some 49) aT ?_
 refine dG (i:=20) (N:=some 50) aT ?_
 refine dG (i:=21) (N:=some 51) aT ?_
 refine dG (i:=22) (N:=some 52) aT ?_
 refine dG (i:=25) (N:=some 55) aT ?_
 refine iy (i:=2) (N:=some 32) aT hHeld ?_
 refine iy (i:=4) (N:=some 34) aT hHeld ?_
 refine iy (i:=9) (N:=some 39) aT hHeld ?_
 refine dG (i:=10) (N:=some 40) aT ?_
 refine iy (i:=12) (N:=some 42) aT hHeld ?_
 refine iy (i:=16) (N:=some 46) aT hHeld ?_
 refine iy (i:=18) (N:=some 48) aT hHeld ?_
 refine iy (i:=23) (N:=some 53) aT hHeld ?_
 refine dG (i:=24) (N:=some 54) aT ?_
 refine iy (i:=26) (N:=some 56) aT hHeld ?_
 refine jC (i:=13) (N:=some 43) #[ac,ac,ac,ac,ac,ac,ac,ac,ac,ac,ac,ac,ac,ac,ac,ac,ac,ac,ac,ac,ac,ac,ac,ac,ac,ac,ac,al,al,al] rfl rfl aT (by decide) (fun K hK=>?_)
 have eG:=kS0 _ w2 Wx (hT.below mB)
 refine jm Try.func131 aT rfl #[.pointer (some ⟨b,0,none⟩),.agg #[Z ab x.f0.f0,Z ab x.f0.f1],Z ab (wrap64 (d0*v.speed)),.agg #[Z ab y.f0.f0,Z ab y.f0.f1]] (by rfl) rfl rfl ET ?_
 with_reducible refine (eG).mono ?_
 rintro e Yq ⟨rfl,hb⟩
 refine ⟨_,rfl,?_⟩
 clear eG
 replace mT:=af mT hb
 replace m6:=af m6 hb
 replace m7:=af m7 hb
 replace m9:=af m9 hb
 replace m10:=af m10 hb
 replace m11:=af m11 hb
 replace m12:=af m12 hb
 replace mB:=aJ mB hb
 clear hb
 refine hK.out _ _ ⟨((ae m6 0).trans rfl),((ae m6 1).trans rfl),((ae m6 2).trans rfl),((ae m6 3).trans rfl),((ae m11 0).trans rfl),((ae m11 1).trans rfl),((ae m12 0).trans rfl),((ae m12 1).trans rfl),((ae m12 2).trans rfl),((ae m12 3).trans rfl),((ae mT 9).trans rfl)⟩ (fun hHeld=>?_)
 clear hK K
 refine dY aq7 ?_
 refine jC (i:=27) (N:=some 57) #[ac,ac,ac,ac,ac,ac,ac,ac,ac,ac,ac,ac,ac,ac,ac,ac,ac,ac,ac,ac,ac,ac,ac,ac,ac,ac,ac,ac,al,al] rfl rfl aT (by decide) (fun K hK=>?_)
 have eG:=kS1 _ w3 Yq (hT.below mB)
 refine jm Try.func131 aT rfl #[.pointer (some ⟨b,0,none⟩),.agg #[Z ab x.f1.f0,Z ab x.f1.f1],Z ab (wrap64 (d1*v.speed)),.agg #[Z ab y.f1.f0,Z ab y.f1.f1]] (by rfl) rfl rfl ET ?_
 with_reducible refine (eG).mono ?_
 rintro e w27 ⟨rfl,hb⟩
 refine ⟨_,rfl,?_⟩
 clear eG
 replace mT:=af mT hb
 replace m6:=af m6 hb
 replace m7:=af m7 hb
 replace m9:=af m9 hb
 replace m10:=af m10 hb
 replace m11:=af m11 hb
 replace m12:=af m12 hb
 replace mB:=aJ mB hb
 clear hb
 refine hK.out _ _ ⟨((ae m6 0).trans rfl),((ae m6 1).trans rfl),((ae m6 2).trans rfl),((ae m6 3).trans rfl),((ae m11 0).trans rfl),((ae m11 1).trans rfl),((ae m12 0).trans rfl),((ae m12 1).trans rfl),((ae m12 2).trans rfl),((ae m12 3).trans rfl),((ae mT 9).trans rfl)⟩ (fun hHeld=>?_)
 clear hK K
 refine dY (by show Act.put _ (some 57) _ = _;simp only [Act.put,List.setIfInBounds_toArray,List.set_cons_zero,List.set_cons_succ,fe,fo];rfl) ?_
 refine dG (i:=28) (N:=some 58) aT ?_
 refine yt (i:=29) (N:=none) #[ac,ac,ac,ac,ac,ac,ac,ac,ac,ac,ac,ac,ac,ac,ac,ac,ac,ac,ac,ac,ac,ac,ac,ac,ac,ac,ac,ac,ac,ac] rfl rfl aT (by decide) (fun K hK=>?_)
 have Cb:=aK m10 0
 have Fs:=aK m10 1
 have Ty:=aK m10 2
 have Tz:=aK m10 3
 have zM:=(ae m10 0).trans rfl
 have Fu:=(ae m10 1).trans rfl
 have TA:=(ae m10 2).trans rfl
 have TB:=(ae m10 3).trans rfl
 refine qp (w1:=?_) (by rfl) rfl ?_ ?_
 rotate_left
 ·go_simp
  rfl
 refine hK.out _ _ ?_
 clear hK K
 refine ma aT ?_
 go_wp2
 exact bodyPost_ret (results_cell_row rfl _ _ g10 31 #[Z ab (jG v.dive x.f0 (d0*v.speed) y.f0).f0,Z ab (jG v.dive x.f0 (d0*v.speed) y.f0).f1,Z ab (jG v.dive x.f1 (d1*v.speed) y.f1).f0,Z ab (jG v.dive x.f1 (d1*v.speed) y.f1).f1] (0,0) _ rfl (az (az (az (az m10 0 (Z ab (jG v.dive x.f0 (d0*v.speed) y.f0).f0) rfl) 1 (Z ab (jG v.dive x.f0 (d0*v.speed) y.f0).f1) rfl) 2 (Z ab (jG v.dive x.f1 (d1*v.speed) y.f1).f0) rfl) 3 (Z ab (jG v.dive x.f1 (d1*v.speed) y.f1).f1) rfl) Try.underlying31 rfl aT) rfl ⟨by rw [HR.out],(Below.setCell (p:=⟨g10,3,none⟩) (Below.setCell (p:=⟨g10,2,none⟩) (Below.setCell (p:=⟨g10,1,none⟩) (Below.setCell (p:=⟨g10,0,none⟩) mB lZ _) lZ _) lZ _) lZ _)⟩
end Go.Proofs.Ytmhaiihjfgfaoaa.Gl
end
