import Derived.Test.YtmhaiihjfgfaoaaGhGliderHolds3
import Derived.Test.YtmhaiihjfgfaoaaGhGliderHolds9
import Derived.Test.YtmhaiihjfgfaoaaGhGliderHolds12
section
namespace Go.Proofs.Ytmhaiihjfgfaoaa.Gl
open Go.RowKit Go.Shelf Go.Proofs.YtmhaiihjfgfaoaaW.PrintWords Go.Proofs.YtmhaiihjfgfaoaaW.PrintLast Go.Proofs.YtmhaiihjfgfaoaaW.PrintMore Go.Proofs.Ytmhaiihjfgfaoaa.Pr Go.Proofs.YtmhaiihjfgfaoaaW.Round
set_option linter.unusedVariables false
set_option linter.unusedSimpArgs false
attribute [local go_sem] cz cB dK dL cK
def pU (h:Int):Int × Int:=if h = 0 then (0,1000) else if h = 1 then (707,707) else if h = 2 then (1000,0) else if h = 3 then (707,-707) else if h = 4 then (0,-1000) else if h = 5 then (-707,-707) else if h = 6 then (-1000,0) else if h = 7 then (-707,707) else if h = 8 then (0,0) else (0,0)
theorem IC (h:Int):(-1000≤(pU h).1∧(pU h).1≤1000)∧(-1000≤(pU h).2∧(pU h).2≤1000):=by
 unfold pU
 repeat' split
 all_goals decide
set_option maxRecDepth 100000 in
set_option maxHeartbeats 2000000 in
theorem UK (w:World):Calls Try.prog 130 #[] w (xA (.agg #[.int .i64 0,.int .i64 1000,.int .i64 707,.int .i64 707,.int .i64 1000,.int .i64 0,.int .i64 707,.int .i64 (-707),.int .i64 0,.int .i64 (-1000),.int .i64 (-707),.int .i64 (-707),.int .i64 (-1000),.int .i64 0,.int .i64 (-707),.int .i64 707,.int .i64 0,.int .i64 0]) w):=by
 have aoS:=Try.underlying162
 have aoT:=Try.underlying161
 go_enter Try.func130,Try.ntmps130
 go_wp2
 exact bodyPost_ret (results_cell_row rfl _ _ w.heap.size 162 #[.int .i64 0,.int .i64 1000,.int .i64 707,.int .i64 707,.int .i64 1000,.int .i64 0,.int .i64 707,.int .i64 (-707),.int .i64 0,.int .i64 (-1000),.int .i64 (-707),.int .i64 (-707),.int .i64 (-1000),.int .i64 0,.int .i64 (-707),.int .i64 707,.int .i64 0,.int .i64 0] (0,0) _ rfl (fT w _) Try.underlying162 rfl aR) rfl ⟨rfl,aY (Below.refl _ w) _⟩
def vX (s:lF) (v:qO) (x rb:gz) (t heading layer:Int):gz:=⟨nL v.dive x.f0 ((pU heading).1*v.speed) (z8 s rb layer t (t+v.dive)).f0,nL v.dive x.f1 ((pU heading).2*v.speed) (z8 s rb layer t (t+v.dive)).f1⟩
set_option maxRecDepth 100000 in
set_option maxHeartbeats 8000000 in
theorem adu (b:Nat) (se:lF) (v:qO) (x rb:gz) (t hd layer:Int) (w:World) (hT:kZ w b se v) (hS:xz se) (hV:Br v) (hcu:(se.currents.length:Int) = se.slots*se.layers*(se.nx*se.ny)) (hcb:aml se) (hx:Bq x) (hr:Qt se rb) (ht0:0≤t) (ht2:t+v.dive≤se.slots*se.slot) (hh0:0≤hd) (Un:hd≤8) (hl0:0≤layer) (hl1:layer < se.layers):
 Calls Try.prog 101 #[.pointer (some ⟨b,0,none⟩),.agg #[.int .i64 x.f0.f0,.int .i64 x.f0.f1,.int .i64 x.f1.f0,.int .i64 x.f1.f1],.agg #[.int .i64 rb.f0.f0,.int .i64 rb.f0.f1,.int .i64 rb.f1.f0,.int .i64 rb.f1.f1],.int .i64 t,.agg #[.int .i64 hd,.int .i64 layer]] w (xA (.agg #[.int .i64 (vX se v x rb t hd layer).f0.f0,.int .i64 (vX se v x rb t hd layer).f0.f1,.int .i64 (vX se v x rb t hd layer).f1.f0,.int .i64 (vX se v x rb t hd layer).f1.f1]) w):=by
 have qP:=Try.underlying31
 have pK:=Try.underlying27
 have aoT:=Try.underlying161
 have aoS:=Try.underlying162
 have Rs:=Try.underlying33
 have hdv:=hV.dive
 have hsp:=hV.speed
 have hss:=fI (show 0≤se.slots by have:=hS.slots;omega) hS.slots.2 (show 0≤se.slot by have:=hS.slot;omega) hS.slot.2
 have hix:∀ W_:World,(Instr.index 162 (.agg #[.int .i64 0,.int .i64 1000,.int .i64 707,.int .i64 707,.int .i64 1000,.int .i64 0,.int .i64 707,.int .i64 (-707),.int .i64 0,.int .i64 (-1000),.int .i64 (-707),.int .i64 (-707),.int .i64 (-1000),.int .i64 0,.int .i64 (-707),.int .i64 707,.int .i64 0,.int .i64 0]) (.int .i64 hd)).run Try.prog W_ = .ok (.agg #[.int .i64 (pU hd).1,.int .i64 (pU hd).2]) W_:=by
  have h9:hd = 0∨hd = 1∨hd = 2∨hd = 3∨hd = 4∨hd = 5∨hd = 6∨hd = 7∨hd = 8:=by omega
  rcases h9 with rfl|rfl|rfl|rfl|rfl|rfl|rfl|rfl|rfl <;> exact fun W_=>by kernel_rfl
 have hdi:=IC hd
 have hai:=Yr hcb rb layer t (t+v.dive)
 have kA:=fun u_ (hu_:u_ = t+v.dive) W (h:kZ W b se v)=>amd b se v rb layer t u_ W h hS hr hcu hl0 hl1 ht0 (by omega) (by omega)
 have hyy:∀ u_,u_ = t+v.dive→z8 se rb layer t u_ = z8 se rb layer t (t+v.dive):=fun u_ h=>by rw [h]
 have HR:Hid (vX se v x rb t hd layer = ⟨nL v.dive x.f0 ((pU hd).1*v.speed) (z8 se rb layer t (t+v.dive)).f0,nL v.dive x.f1 ((pU hd).2*v.speed) (z8 se rb layer t (t+v.dive)).f1⟩):=Lib.hid rfl
 have kA:=fun u_ (hu_:u_ = t+v.dive) W (h:kZ W b se v)=>by have h1:=kA u_ hu_ W h;rw [hyy u_ hu_] at h1;exact h1
 clear hyy
 generalize z8 se rb layer t (t+v.dive) = y at*
 generalize pU hd = d at*
 obtain ⟨d0,d1⟩:=d
 dsimp only at hdi hix HR
 have m0:=nH (a:=d0) (b:=v.speed) (m:=1000) (n:=5000) hdi.1.1 hdi.1.2 hsp.1 hsp.2 (by omega)
 have m1:=nH (a:=d1) (b:=v.speed) (m:=1000) (n:=5000) hdi.2.1 hdi.2.2 hsp.1 hsp.2 (by omega)
 have kS0:=fun z_ (hz_:z_ = d0*v.speed) W (h:kZ W b se v)=>Qw b se v x.f0 z_ y.f0 W h hV hx.1 hx.2.1 (by omega) hai.1 hai.2.1
 have kS1:=fun z_ (hz_:z_ = d1*v.speed) W (h:kZ W b se v)=>Qw b se v x.f1 z_ y.f1 W h hV hx.2.2.1 hx.2.2.2 (by omega) hai.2.2.1 hai.2.2.2.1
 have hT0:=hT
 obtain ⟨A7,c7,A8,c8,mT,_⟩:=hT0
 have w1:wrap64 (t+v.dive) = t+v.dive:=by unfold wrap64;omega
 have w2:wrap64 (d0*v.speed) = d0*v.speed:=by unfold wrap64;omega
 have w3:wrap64 (d1*v.speed) = d1*v.speed:=by unfold wrap64;omega
 clear hx hr hS hV hcu hcb hai hdi hss m0 m1 hdv hsp ht0 ht2 hh0 Un hl0 hl1
 go_enter Try.func101,Try.ntmps101
 go_wp2_with fail
 have Dj:=dV mT
 have m6:iD ((((w.alloc (.cells #[.int .i64 x.f0.f0,.int .i64 x.f0.f1,.int .i64 x.f1.f0,.int .i64 x.f1.f1] 31)).alloc (.cells #[.int .i64 rb.f0.f0,.int .i64 rb.f0.f1,.int .i64 rb.f1.f0,.int .i64 rb.f1.f1] 31)).alloc (.cells #[.int .i64 hd,.int .i64 layer] 33)).alloc (.cells #[.int .i64 0,.int .i64 0,.int .i64 0,.int .i64 0] 31)) (w.heap.size) #[.int .i64 x.f0.f0,.int .i64 x.f0.f1,.int .i64 x.f1.f0,.int .i64 x.f1.f1] 31:=(ag (ag (ag af6 _) _) _)
 have m7:iD ((((w.alloc (.cells #[.int .i64 x.f0.f0,.int .i64 x.f0.f1,.int .i64 x.f1.f0,.int .i64 x.f1.f1] 31)).alloc (.cells #[.int .i64 rb.f0.f0,.int .i64 rb.f0.f1,.int .i64 rb.f1.f0,.int .i64 rb.f1.f1] 31)).alloc (.cells #[.int .i64 hd,.int .i64 layer] 33)).alloc (.cells #[.int .i64 0,.int .i64 0,.int .i64 0,.int .i64 0] 31)) (w.heap.size+1) #[.int .i64 rb.f0.f0,.int .i64 rb.f0.f1,.int .i64 rb.f1.f0,.int .i64 rb.f1.f1] 31:=(ag (ag (by have h_:=fT (w.alloc (.cells #[.int .i64 x.f0.f0,.int .i64 x.f0.f1,.int .i64 x.f1.f0,.int .i64 x.f1.f1] 31)) (.cells #[.int .i64 rb.f0.f0,.int .i64 rb.f0.f1,.int .i64 rb.f1.f0,.int .i64 rb.f1.f1] 31);first|exact h_|(simp only [World.size_alloc] at h_;exact h_)) _) _)
 have m9:iD ((((w.alloc (.cells #[.int .i64 x.f0.f0,.int .i64 x.f0.f1,.int .i64 x.f1.f0,.int .i64 x.f1.f1] 31)).alloc (.cells #[.int .i64 rb.f0.f0,.int .i64 rb.f0.f1,.int .i64 rb.f1.f0,.int .i64 rb.f1.f1] 31)).alloc (.cells #[.int .i64 hd,.int .i64 layer] 33)).alloc (.cells #[.int .i64 0,.int .i64 0,.int .i64 0,.int .i64 0] 31)) (w.heap.size+1+1) #[.int .i64 hd,.int .i64 layer] 33:=(ag (by have h_:=fT ((w.alloc (.cells #[.int .i64 x.f0.f0,.int .i64 x.f0.f1,.int .i64 x.f1.f0,.int .i64 x.f1.f1] 31)).alloc (.cells #[.int .i64 rb.f0.f0,.int .i64 rb.f0.f1,.int .i64 rb.f1.f0,.int .i64 rb.f1.f1] 31)) (.cells #[.int .i64 hd,.int .i64 layer] 33);first|exact h_|(simp only [World.size_alloc] at h_;exact h_)) _)
 have m10:iD ((((w.alloc (.cells #[.int .i64 x.f0.f0,.int .i64 x.f0.f1,.int .i64 x.f1.f0,.int .i64 x.f1.f1] 31)).alloc (.cells #[.int .i64 rb.f0.f0,.int .i64 rb.f0.f1,.int .i64 rb.f1.f0,.int .i64 rb.f1.f1] 31)).alloc (.cells #[.int .i64 hd,.int .i64 layer] 33)).alloc (.cells #[.int .i64 0,.int .i64 0,.int .i64 0,.int .i64 0] 31)) (w.heap.size+1+1+1) #[.int .i64 0,.int .i64 0,.int .i64 0,.int .i64 0] 31:=(by have h_:=fT (((w.alloc (.cells #[.int .i64 x.f0.f0,.int .i64 x.f0.f1,.int .i64 x.f1.f0,.int .i64 x.f1.f1] 31)).alloc (.cells #[.int .i64 rb.f0.f0,.int .i64 rb.f0.f1,.int .i64 rb.f1.f0,.int .i64 rb.f1.f1] 31)).alloc (.cells #[.int .i64 hd,.int .i64 layer] 33)) (.cells #[.int .i64 0,.int .i64 0,.int .i64 0,.int .i64 0] 31);first|exact h_|(simp only [World.size_alloc] at h_;exact h_))
 replace mT:iD ((((w.alloc (.cells #[.int .i64 x.f0.f0,.int .i64 x.f0.f1,.int .i64 x.f1.f0,.int .i64 x.f1.f1] 31)).alloc (.cells #[.int .i64 rb.f0.f0,.int .i64 rb.f0.f1,.int .i64 rb.f1.f0,.int .i64 rb.f1.f1] 31)).alloc (.cells #[.int .i64 hd,.int .i64 layer] 33)).alloc (.cells #[.int .i64 0,.int .i64 0,.int .i64 0,.int .i64 0] 31)) b #[.int .i64 se.nx,.int .i64 se.ny,.int .i64 se.cell,.int .i64 se.slot,.int .i64 se.slots,.int .i64 se.layers,.int .i64 se.most,.slice A7 se.shores.length c7,.slice A8 se.currents.length c8,.int .i64 v.speed,.int .i64 v.dive,.int .i64 v.use.f0,.int .i64 v.use.f1,.int .i64 v.drift.f0,.int .i64 v.drift.f1,.int .i64 v.reserve] 110:=(ag (ag (ag (ag mT _) _) _) _)
 have mB:Below w.heap.size w ((((w.alloc (.cells #[.int .i64 x.f0.f0,.int .i64 x.f0.f1,.int .i64 x.f1.f0,.int .i64 x.f1.f1] 31)).alloc (.cells #[.int .i64 rb.f0.f0,.int .i64 rb.f0.f1,.int .i64 rb.f1.f0,.int .i64 rb.f1.f1] 31)).alloc (.cells #[.int .i64 hd,.int .i64 layer] 33)).alloc (.cells #[.int .i64 0,.int .i64 0,.int .i64 0,.int .i64 0] 31)):=(aY (aY (aY (aY (Below.refl w.heap.size w) _) _) _) _)
 have nK:w.heap.size≤w.heap.size:=Nat.le_refl _
 generalize xV:((((w.alloc (.cells #[.int .i64 x.f0.f0,.int .i64 x.f0.f1,.int .i64 x.f1.f0,.int .i64 x.f1.f1] 31)).alloc (.cells #[.int .i64 rb.f0.f0,.int .i64 rb.f0.f1,.int .i64 rb.f1.f0,.int .i64 rb.f1.f1] 31)).alloc (.cells #[.int .i64 hd,.int .i64 layer] 33)).alloc (.cells #[.int .i64 0,.int .i64 0,.int .i64 0,.int .i64 0] 31)) = W1 at mT m6 m7 m9 m10 mB ⊢
 clear xV
 generalize hg6:w.heap.size = g6 at m6 m7 m9 m10 ⊢
 have KO:b≠g6:=by omega
 have WH:g6≠b:=KO.symm
 have Uw:w.heap.size≤g6:=by omega
 generalize hg7:g6+1 = g7 at m7 m9 m10 ⊢
 have WM:b≠g7:=by omega
 have OU:g6≠g7:=by omega
 have ams:g7≠b:=WM.symm
 have adv:g7≠g6:=OU.symm
 have hG7:w.heap.size≤g7:=by omega
 generalize hg9:g7+1 = g9 at m9 m10 ⊢
 have OQ:b≠g9:=by omega
 have OT:g6≠g9:=by omega
 have OV:g7≠g9:=by omega
 have ado:g9≠b:=OQ.symm
 have adp:g9≠g6:=OT.symm
 have adw:g9≠g7:=OV.symm
 have hG9:w.heap.size≤g9:=by omega
 generalize WI:g9+1 = g10 at m10 ⊢
 have MB:b≠g10:=by omega
 have mM:g6≠g10:=by omega
 have IE:g7≠g10:=by omega
 have Rt:g9≠g10:=by omega
 have Yg:g10≠b:=MB.symm
 have Ri:g10≠g6:=mM.symm
 have Yt:g10≠g7:=IE.symm
 have af8:g10≠g9:=Rt.symm
 have nX:w.heap.size≤g10:=by omega
 clear nK Dj
 try clear WI
 try clear hg9
 try clear hg7
 try clear hg6
 have Dl:w.heap.size≤W1.heap.size:=mB.size
 replace mT:=ah mT
 replace m6:=ah m6
 replace m7:=ah m7
 replace m9:=ah m9
 replace m10:=ah m10
 replace mB:=bW mB
 refine jI (n:=6) (S:=fun w'=>w'.cell? ⟨g9,0,none⟩ = some (.int .i64 hd)∧w'.cell? ⟨g9,1,none⟩ = some (.int .i64 layer)) (ds:=[5]) #[false,false,false,false,false,false] aR rfl rfl ⟨((aa m9 0).trans rfl),((aa m9 1).trans rfl)⟩ (fun hHeld=>?_)
 generalize hWd:World.drew _ = Wx at mT m6 m7 m9 m10 mB hHeld ⊢
 clear hWd
 refine dJ (i:=1) (N:=some 14) aR ?_
 refine ja (i:=2) (N:=some 15) aR hHeld ?_
 refine Qx (σ:=Nat) 1 #[true,true,true,true,true,false] (fun s=>[(13,.agg #[.int .i64 0,.int .i64 1000,.int .i64 707,.int .i64 707,.int .i64 1000,.int .i64 0,.int .i64 707,.int .i64 (-707),.int .i64 0,.int .i64 (-1000),.int .i64 (-707),.int .i64 (-707),.int .i64 (-1000),.int .i64 0,.int .i64 (-707),.int .i64 707,.int .i64 0,.int .i64 0]),(16,.agg #[.int .i64 d0,.int .i64 d1]),(11,.pointer (some ⟨s,0,none⟩))]) (fun s w'=>iD w' b #[.int .i64 se.nx,.int .i64 se.ny,.int .i64 se.cell,.int .i64 se.slot,.int .i64 se.slots,.int .i64 se.layers,.int .i64 se.most,.slice A7 se.shores.length c7,.slice A8 se.currents.length c8,.int .i64 v.speed,.int .i64 v.dive,.int .i64 v.use.f0,.int .i64 v.use.f1,.int .i64 v.drift.f0,.int .i64 v.drift.f1,.int .i64 v.reserve] 110∧iD w' g6 #[.int .i64 x.f0.f0,.int .i64 x.f0.f1,.int .i64 x.f1.f0,.int .i64 x.f1.f1] 31∧iD w' g7 #[.int .i64 rb.f0.f0,.int .i64 rb.f0.f1,.int .i64 rb.f1.f0,.int .i64 rb.f1.f1] 31∧iD w' g9 #[.int .i64 hd,.int .i64 layer] 33∧iD w' g10 #[.int .i64 0,.int .i64 0,.int .i64 0,.int .i64 0] 31∧iD w' (s) #[.int .i64 0,.int .i64 0] 161∧Below w.heap.size w w'∧w.heap.size≤s∧b≠s∧g6≠s∧g7≠s∧g9≠s∧g10≠s) ?_ ?_
 rotate_left
 ·intro hCont
  refine UL (i:=0) (j:=4) (Ni:=some 13) (Nj:=some 11) #[true,true,true,false,false,false] #[false,true,true,false,true,false] rfl rfl rfl rfl aR (by decide) (by decide) (fun K hK=>?_) (fun K hK=>?_)
  ·skip
   have pg:=UK (Wx)
   refine gV Try.func130 aR rfl #[] (by rfl) rfl rfl (by simp only [List.map_toArray,List.map_cons,List.map_nil]) ?_
   with_reducible refine (pg).mono ?_
   rintro e w0 ⟨rfl,hb⟩
   refine ⟨_,rfl,?_⟩
   clear pg
   replace mT:=aV mT hb
   replace m6:=aV m6 hb
   replace m7:=aV m7 hb
   replace m9:=aV m9 hb
   replace m10:=aV m10 hb
   replace mB:=dY mB hb
   clear hb
   refine hK.out _ _ ⟨((aa m9 0).trans rfl),((aa m9 1).trans rfl)⟩ (fun hHeld=>?_)
   clear hK K
   refine ek WN ?_
   refine ja (i:=3) (N:=some 16) aR hHeld ?_
   refine jq (i:=4) (N:=some 11) #[true,true,true,true,true,false] rfl rfl aR (by decide) (fun K hK=>?_)
   have DY:b≠w0.heap.size:=by have h_:=dV mT;omega
   have DZ:g6≠w0.heap.size:=by have h_:=dV m6;omega
   have D5:g7≠w0.heap.size:=by have h_:=dV m7;omega
   have D6:g9≠w0.heap.size:=by have h_:=dV m9;omega
   have Ab:g10≠w0.heap.size:=by have h_:=dV m10;omega
   have abt:w.heap.size≤w0.heap.size:=by have h_:=mB.size;omega
   replace mT:=ag mT (.cells #[.int .i64 0,.int .i64 0] 161)
   replace m6:=ag m6 (.cells #[.int .i64 0,.int .i64 0] 161)
   replace m7:=ag m7 (.cells #[.int .i64 0,.int .i64 0] 161)
   replace m9:=ag m9 (.cells #[.int .i64 0,.int .i64 0] 161)
   replace m10:=ag m10 (.cells #[.int .i64 0,.int .i64 0] 161)
   have m11:iD (w0.alloc (.cells #[.int .i64 0,.int .i64 0] 161)) (w0.heap.size) #[.int .i64 0,.int .i64 0] 161:=by have h_:=fT w0 (.cells #[.int .i64 0,.int .i64 0] 161);first|exact h_|(simp only [World.size_alloc] at h_;exact h_)
   replace mB:=aY mB (.cells #[.int .i64 0,.int .i64 0] 161)
   refine KT (w1:=?_) (v:=?_) (by rfl) rfl ?_ ?_
   rotate_left 2
   ·go_simp
    constructor
    ·rfl
    ·rfl
   refine hK.out _ _ ⟨((aa m9 0).trans rfl),((aa m9 1).trans rfl)⟩ (fun hHeld=>?_)
   clear hK K
   refine ek aoU ?_
   exact ek af9 (hCont (w0.heap.size) _ ⟨mT,m6,m7,m9,m10,m11,mB,abt,DY,DZ,D5,D6,Ab⟩)
  ·skip
   have DY:b≠Wx.heap.size:=by have h_:=dV mT;omega
   have DZ:g6≠Wx.heap.size:=by have h_:=dV m6;omega
   have D5:g7≠Wx.heap.size:=by have h_:=dV m7;omega
   have D6:g9≠Wx.heap.size:=by have h_:=dV m9;omega
   have Ab:g10≠Wx.heap.size:=by have h_:=dV m10;omega
   have abt:w.heap.size≤Wx.heap.size:=by have h_:=mB.size;omega
   replace mT:=ag mT (.cells #[.int .i64 0,.int .i64 0] 161)
   replace m6:=ag m6 (.cells #[.int .i64 0,.int .i64 0] 161)
   replace m7:=ag m7 (.cells #[.int .i64 0,.int .i64 0] 161)
   replace m9:=ag m9 (.cells #[.int .i64 0,.int .i64 0] 161)
   replace m10:=ag m10 (.cells #[.int .i64 0,.int .i64 0] 161)
   have m11:iD (Wx.alloc (.cells #[.int .i64 0,.int .i64 0] 161)) (Wx.heap.size) #[.int .i64 0,.int .i64 0] 161:=by have h_:=fT Wx (.cells #[.int .i64 0,.int .i64 0] 161);first|exact h_|(simp only [World.size_alloc] at h_;exact h_)
   replace mB:=aY mB (.cells #[.int .i64 0,.int .i64 0] 161)
   refine KT (w1:=?_) (v:=?_) (by rfl) rfl ?_ ?_
   rotate_left 2
   ·go_simp
    constructor
    ·rfl
    ·rfl
   refine hK.out _ _ ⟨((aa m9 0).trans rfl),((aa m9 1).trans rfl)⟩ (fun hHeld=>?_)
   clear hK K
   refine ek aoU ?_
   refine jq (i:=0) (N:=some 13) #[true,true,true,false,true,false] rfl rfl aR (by decide) (fun K hK=>?_)
   have pg:=UK ((Wx.alloc (.cells #[.int .i64 0,.int .i64 0] 161)))
   refine gV Try.func130 aR rfl #[] (by rfl) rfl rfl (by simp only [List.map_toArray,List.map_cons,List.map_nil]) ?_
   with_reducible refine (pg).mono ?_
   rintro e w0 ⟨rfl,hb⟩
   refine ⟨_,rfl,?_⟩
   clear pg
   replace mT:=aV mT hb
   replace m6:=aV m6 hb
   replace m7:=aV m7 hb
   replace m9:=aV m9 hb
   replace m10:=aV m10 hb
   replace m11:=aV m11 hb
   replace mB:=dY mB hb
   clear hb
   refine hK.out _ _ ⟨((aa m9 0).trans rfl),((aa m9 1).trans rfl)⟩ (fun hHeld=>?_)
   clear hK K
   refine ek WN ?_
   refine ja (i:=3) (N:=some 16) aR hHeld ?_
   exact ek af9 (hCont (Wx.heap.size) _ ⟨mT,m6,m7,m9,m10,m11,mB,abt,DY,DZ,D5,D6,Ab⟩)
 rintro g11 Wg ⟨mT,m6,m7,m9,m10,m11,mB,abt,DY,DZ,D5,D6,Ab⟩
 have hHeld:(Wg.cell? ⟨g9,0,none⟩ = some (.int .i64 hd)∧Wg.cell? ⟨g9,1,none⟩ = some (.int .i64 layer)):=⟨((aa m9 0).trans rfl),((aa m9 1).trans rfl)⟩
 refine ek (a':=?_) ?_ ?_
 rotate_left
 ·simp only [vQ,Act.put,List.setIfInBounds_toArray,List.set_cons_zero,List.set_cons_succ]
  rfl
 refine Qv (i:=5) (N:=none) #[true,true,true,true,true,true] rfl rfl aR (by decide) (fun K hK=>?_)
 have UE:=aX m11 0
 have UG:=(aa m11 0).trans rfl
 have UF:=aX m11 1
 have UH:=(aa m11 1).trans rfl
 refine yc (w1:=?_) (by rfl) rfl ?_ ?_
 rotate_left
 ·go_simp
  rfl
 clear UE UG UF UH
 replace mT:iD (Wg.setCell ⟨g11,0,none⟩ (.int .i64 d0)) b #[.int .i64 se.nx,.int .i64 se.ny,.int .i64 se.cell,.int .i64 se.slot,.int .i64 se.slots,.int .i64 se.layers,.int .i64 se.most,.slice A7 se.shores.length c7,.slice A8 se.currents.length c8,.int .i64 v.speed,.int .i64 v.dive,.int .i64 v.use.f0,.int .i64 v.use.f1,.int .i64 v.drift.f0,.int .i64 v.drift.f1,.int .i64 v.reserve] 110:=aM (p:=⟨g11,0,none⟩) mT DY _
 replace m6:iD (Wg.setCell ⟨g11,0,none⟩ (.int .i64 d0)) g6 #[.int .i64 x.f0.f0,.int .i64 x.f0.f1,.int .i64 x.f1.f0,.int .i64 x.f1.f1] 31:=aM (p:=⟨g11,0,none⟩) m6 DZ _
 replace m7:iD (Wg.setCell ⟨g11,0,none⟩ (.int .i64 d0)) g7 #[.int .i64 rb.f0.f0,.int .i64 rb.f0.f1,.int .i64 rb.f1.f0,.int .i64 rb.f1.f1] 31:=aM (p:=⟨g11,0,none⟩) m7 D5 _
 replace m9:iD (Wg.setCell ⟨g11,0,none⟩ (.int .i64 d0)) g9 #[.int .i64 hd,.int .i64 layer] 33:=aM (p:=⟨g11,0,none⟩) m9 D6 _
 replace m10:iD (Wg.setCell ⟨g11,0,none⟩ (.int .i64 d0)) g10 #[.int .i64 0,.int .i64 0,.int .i64 0,.int .i64 0] 31:=aM (p:=⟨g11,0,none⟩) m10 Ab _
 replace m11:iD (Wg.setCell ⟨g11,0,none⟩ (.int .i64 d0)) g11 #[.int .i64 d0,.int .i64 0] 161:=aI m11 0 _ rfl
 replace mB:Below w.heap.size w (Wg.setCell ⟨g11,0,none⟩ (.int .i64 d0)):=mB.setCell (p:=⟨g11,0,none⟩) abt _
 replace mT:iD ((Wg.setCell ⟨g11,0,none⟩ (.int .i64 d0)).setCell ⟨g11,1,none⟩ (.int .i64 d1)) b #[.int .i64 se.nx,.int .i64 se.ny,.int .i64 se.cell,.int .i64 se.slot,.int .i64 se.slots,.int .i64 se.layers,.int .i64 se.most,.slice A7 se.shores.length c7,.slice A8 se.currents.length c8,.int .i64 v.speed,.int .i64 v.dive,.int .i64 v.use.f0,.int .i64 v.use.f1,.int .i64 v.drift.f0,.int .i64 v.drift.f1,.int .i64 v.reserve] 110:=aM (p:=⟨g11,1,none⟩) mT DY _
 replace m6:iD ((Wg.setCell ⟨g11,0,none⟩ (.int .i64 d0)).setCell ⟨g11,1,none⟩ (.int .i64 d1)) g6 #[.int .i64 x.f0.f0,.int .i64 x.f0.f1,.int .i64 x.f1.f0,.int .i64 x.f1.f1] 31:=aM (p:=⟨g11,1,none⟩) m6 DZ _
 replace m7:iD ((Wg.setCell ⟨g11,0,none⟩ (.int .i64 d0)).setCell ⟨g11,1,none⟩ (.int .i64 d1)) g7 #[.int .i64 rb.f0.f0,.int .i64 rb.f0.f1,.int .i64 rb.f1.f0,.int .i64 rb.f1.f1] 31:=aM (p:=⟨g11,1,none⟩) m7 D5 _
 replace m9:iD ((Wg.setCell ⟨g11,0,none⟩ (.int .i64 d0)).setCell ⟨g11,1,none⟩ (.int .i64 d1)) g9 #[.int .i64 hd,.int .i64 layer] 33:=aM (p:=⟨g11,1,none⟩) m9 D6 _
 replace m10:iD ((Wg.setCell ⟨g11,0,none⟩ (.int .i64 d0)).setCell ⟨g11,1,none⟩ (.int .i64 d1)) g10 #[.int .i64 0,.int .i64 0,.int .i64 0,.int .i64 0] 31:=aM (p:=⟨g11,1,none⟩) m10 Ab _
 replace m11:iD ((Wg.setCell ⟨g11,0,none⟩ (.int .i64 d0)).setCell ⟨g11,1,none⟩ (.int .i64 d1)) g11 #[.int .i64 d0,.int .i64 d1] 161:=aI m11 1 _ rfl
 replace mB:Below w.heap.size w ((Wg.setCell ⟨g11,0,none⟩ (.int .i64 d0)).setCell ⟨g11,1,none⟩ (.int .i64 d1)):=mB.setCell (p:=⟨g11,1,none⟩) abt _
 refine hK.out _ _ ?_
 clear hK K
 refine lC aR ?_
 try clear hHeld
 generalize xV:((Wg.setCell ⟨g11,0,none⟩ (.int .i64 d0)).setCell ⟨g11,1,none⟩ (.int .i64 d1)) = W2 at mT m6 m7 m9 m10 m11 mB ⊢
 clear xV
 have x9:w.heap.size≤W2.heap.size:=mB.size
 go_wp2_with fail
 replace mT:=ah mT
 replace m6:=ah m6
 replace m7:=ah m7
 replace m9:=ah m9
 replace m10:=ah m10
 replace m11:=ah m11
 replace mB:=bW mB
 refine jI (n:=15) (S:=fun w'=>w'.cell? ⟨g7,0,none⟩ = some (.int .i64 rb.f0.f0)∧w'.cell? ⟨g7,1,none⟩ = some (.int .i64 rb.f0.f1)∧w'.cell? ⟨g7,2,none⟩ = some (.int .i64 rb.f1.f0)∧w'.cell? ⟨g7,3,none⟩ = some (.int .i64 rb.f1.f1)∧w'.cell? ⟨g9,0,none⟩ = some (.int .i64 hd)∧w'.cell? ⟨g9,1,none⟩ = some (.int .i64 layer)∧w'.cell? ⟨b,10,none⟩ = some (.int .i64 v.dive)) (ds:=[14]) #[false,false,false,false,false,false,false,false,false,false,false,false,false,false,false] aR rfl rfl ⟨((aa m7 0).trans rfl),((aa m7 1).trans rfl),((aa m7 2).trans rfl),((aa m7 3).trans rfl),((aa m9 0).trans rfl),((aa m9 1).trans rfl),((aa mT 10).trans rfl)⟩ (fun hHeld=>?_)
 generalize hWd:World.drew _ = Wx at mT m6 m7 m9 m10 m11 mB hHeld ⊢
 clear hWd
 refine dJ (i:=0) (N:=some 17) aR ?_
 refine dJ (i:=2) (N:=some 19) aR ?_
 refine dJ (i:=4) (N:=some 21) aR ?_
 refine dJ (i:=5) (N:=some 22) aR ?_
 refine dJ (i:=6) (N:=some 23) aR ?_
 refine dJ (i:=7) (N:=some 24) aR ?_
 refine dJ (i:=8) (N:=some 25) aR ?_
 refine dJ (i:=9) (N:=some 26) aR ?_
 refine ja (i:=1) (N:=some 18) aR hHeld ?_
 refine ja (i:=3) (N:=some 20) aR hHeld ?_
 refine ja (i:=10) (N:=some 27) aR hHeld ?_
 refine dJ (i:=11) (N:=some 28) aR ?_
 refine Qx (σ:=Nat) 1 #[true,true,true,true,true,true,true,true,true,true,true,true,true,true,false] (fun s=>[(29,.agg #[.int .i64 y.f0.f0,.int .i64 y.f0.f1,.int .i64 y.f1.f0,.int .i64 y.f1.f1]),(12,.pointer (some ⟨s,0,none⟩))]) (fun s w'=>iD w' b #[.int .i64 se.nx,.int .i64 se.ny,.int .i64 se.cell,.int .i64 se.slot,.int .i64 se.slots,.int .i64 se.layers,.int .i64 se.most,.slice A7 se.shores.length c7,.slice A8 se.currents.length c8,.int .i64 v.speed,.int .i64 v.dive,.int .i64 v.use.f0,.int .i64 v.use.f1,.int .i64 v.drift.f0,.int .i64 v.drift.f1,.int .i64 v.reserve] 110∧iD w' g6 #[.int .i64 x.f0.f0,.int .i64 x.f0.f1,.int .i64 x.f1.f0,.int .i64 x.f1.f1] 31∧iD w' g7 #[.int .i64 rb.f0.f0,.int .i64 rb.f0.f1,.int .i64 rb.f1.f0,.int .i64 rb.f1.f1] 31∧iD w' g9 #[.int .i64 hd,.int .i64 layer] 33∧iD w' g10 #[.int .i64 0,.int .i64 0,.int .i64 0,.int .i64 0] 31∧iD w' g11 #[.int .i64 d0,.int .i64 d1] 161∧iD w' (s) #[.int .i64 0,.int .i64 0,.int .i64 0,.int .i64 0] 31∧Below w.heap.size w w'∧w.heap.size≤s∧b≠s∧g6≠s∧g7≠s∧g9≠s∧g10≠s∧g11≠s) ?_ ?_
 rotate_left
 ·intro hCont
  refine UL (i:=12) (j:=13) (Ni:=some 29) (Nj:=some 12) #[true,true,true,true,true,true,true,true,true,true,true,true,true,false,false] #[true,true,true,true,true,true,true,true,true,true,true,true,false,true,false] rfl rfl rfl rfl aR (by decide) (by decide) (fun K hK=>?_) (fun K hK=>?_)
  ·skip
   have pg:=kA _ w1 (Wx) (hT.below mB)
   refine gV Try.func70 aR rfl #[.pointer (some ⟨b,0,none⟩),.agg #[.int .i64 rb.f0.f0,.int .i64 rb.f0.f1,.int .i64 rb.f1.f0,.int .i64 rb.f1.f1],.int .i64 layer,.int .i64 t,.int .i64 (wrap64 (t+v.dive))] (by rfl) rfl rfl abu ?_
   with_reducible refine (pg).mono ?_
   rintro e MC ⟨rfl,hb⟩
   refine ⟨_,rfl,?_⟩
   clear pg
   replace mT:=aV mT hb
   replace m6:=aV m6 hb
   replace m7:=aV m7 hb
   replace m9:=aV m9 hb
   replace m10:=aV m10 hb
   replace m11:=aV m11 hb
   replace mB:=dY mB hb
   clear hb
   refine hK.out _ _ ⟨((aa m7 0).trans rfl),((aa m7 1).trans rfl),((aa m7 2).trans rfl),((aa m7 3).trans rfl),((aa m9 0).trans rfl),((aa m9 1).trans rfl),((aa mT 10).trans rfl)⟩ (fun hHeld=>?_)
   clear hK K
   refine ek adx ?_
   refine jq (i:=13) (N:=some 12) #[true,true,true,true,true,true,true,true,true,true,true,true,true,true,false] rfl rfl aR (by decide) (fun K hK=>?_)
   have rR:b≠MC.heap.size:=by have h_:=dV mT;omega
   have nG:g6≠MC.heap.size:=by have h_:=dV m6;omega
   have yf:g7≠MC.heap.size:=by have h_:=dV m7;omega
   have yg:g9≠MC.heap.size:=by have h_:=dV m9;omega
   have kz:g10≠MC.heap.size:=by have h_:=dV m10;omega
   have vH:g11≠MC.heap.size:=by have h_:=dV m11;omega
   have KR:w.heap.size≤MC.heap.size:=by have h_:=mB.size;omega
   replace mT:=ag mT (.cells #[.int .i64 0,.int .i64 0,.int .i64 0,.int .i64 0] 31)
   replace m6:=ag m6 (.cells #[.int .i64 0,.int .i64 0,.int .i64 0,.int .i64 0] 31)
   replace m7:=ag m7 (.cells #[.int .i64 0,.int .i64 0,.int .i64 0,.int .i64 0] 31)
   replace m9:=ag m9 (.cells #[.int .i64 0,.int .i64 0,.int .i64 0,.int .i64 0] 31)
   replace m10:=ag m10 (.cells #[.int .i64 0,.int .i64 0,.int .i64 0,.int .i64 0] 31)
   replace m11:=ag m11 (.cells #[.int .i64 0,.int .i64 0,.int .i64 0,.int .i64 0] 31)
   have m12:iD (MC.alloc (.cells #[.int .i64 0,.int .i64 0,.int .i64 0,.int .i64 0] 31)) (MC.heap.size) #[.int .i64 0,.int .i64 0,.int .i64 0,.int .i64 0] 31:=by have h_:=fT MC (.cells #[.int .i64 0,.int .i64 0,.int .i64 0,.int .i64 0] 31);first|exact h_|(simp only [World.size_alloc] at h_;exact h_)
   replace mB:=aY mB (.cells #[.int .i64 0,.int .i64 0,.int .i64 0,.int .i64 0] 31)
   refine KT (w1:=?_) (v:=?_) (by rfl) rfl ?_ ?_
   rotate_left 2
   ·go_simp
    constructor
    ·rfl
    ·rfl
   refine hK.out _ _ ⟨((aa m7 0).trans rfl),((aa m7 1).trans rfl),((aa m7 2).trans rfl),((aa m7 3).trans rfl),((aa m9 0).trans rfl),((aa m9 1).trans rfl),((aa mT 10).trans rfl)⟩ (fun hHeld=>?_)
   clear hK K
   refine ek aoV ?_
   exact ek af9 (hCont (MC.heap.size) _ ⟨mT,m6,m7,m9,m10,m11,m12,mB,KR,rR,nG,yf,yg,kz,vH⟩)
  ·skip
   have rR:b≠Wx.heap.size:=by have h_:=dV mT;omega
   have nG:g6≠Wx.heap.size:=by have h_:=dV m6;omega
   have yf:g7≠Wx.heap.size:=by have h_:=dV m7;omega
   have yg:g9≠Wx.heap.size:=by have h_:=dV m9;omega
   have kz:g10≠Wx.heap.size:=by have h_:=dV m10;omega
   have vH:g11≠Wx.heap.size:=by have h_:=dV m11;omega
   have KR:w.heap.size≤Wx.heap.size:=by have h_:=mB.size;omega
   replace mT:=ag mT (.cells #[.int .i64 0,.int .i64 0,.int .i64 0,.int .i64 0] 31)
   replace m6:=ag m6 (.cells #[.int .i64 0,.int .i64 0,.int .i64 0,.int .i64 0] 31)
   replace m7:=ag m7 (.cells #[.int .i64 0,.int .i64 0,.int .i64 0,.int .i64 0] 31)
   replace m9:=ag m9 (.cells #[.int .i64 0,.int .i64 0,.int .i64 0,.int .i64 0] 31)
   replace m10:=ag m10 (.cells #[.int .i64 0,.int .i64 0,.int .i64 0,.int .i64 0] 31)
   replace m11:=ag m11 (.cells #[.int .i64 0,.int .i64 0,.int .i64 0,.int .i64 0] 31)
   have m12:iD (Wx.alloc (.cells #[.int .i64 0,.int .i64 0,.int .i64 0,.int .i64 0] 31)) (Wx.heap.size) #[.int .i64 0,.int .i64 0,.int .i64 0,.int .i64 0] 31:=by have h_:=fT Wx (.cells #[.int .i64 0,.int .i64 0,.int .i64 0,.int .i64 0] 31);first|exact h_|(simp only [World.size_alloc] at h_;exact h_)
   replace mB:=aY mB (.cells #[.int .i64 0,.int .i64 0,.int .i64 0,.int .i64 0] 31)
   refine KT (w1:=?_) (v:=?_) (by rfl) rfl ?_ ?_
   rotate_left 2
   ·go_simp
    constructor
    ·rfl
    ·rfl
   refine hK.out _ _ ⟨((aa m7 0).trans rfl),((aa m7 1).trans rfl),((aa m7 2).trans rfl),((aa m7 3).trans rfl),((aa m9 0).trans rfl),((aa m9 1).trans rfl),((aa mT 10).trans rfl)⟩ (fun hHeld=>?_)
   clear hK K
   refine ek aoV ?_
   refine jq (i:=12) (N:=some 29) #[true,true,true,true,true,true,true,true,true,true,true,true,true,true,false] rfl rfl aR (by decide) (fun K hK=>?_)
   have pg:=kA _ w1 ((Wx.alloc (.cells #[.int .i64 0,.int .i64 0,.int .i64 0,.int .i64 0] 31))) (hT.below mB)
   refine gV Try.func70 aR rfl #[.pointer (some ⟨b,0,none⟩),.agg #[.int .i64 rb.f0.f0,.int .i64 rb.f0.f1,.int .i64 rb.f1.f0,.int .i64 rb.f1.f1],.int .i64 layer,.int .i64 t,.int .i64 (wrap64 (t+v.dive))] (by rfl) rfl rfl abu ?_
   with_reducible refine (pg).mono ?_
   rintro e MC ⟨rfl,hb⟩
   refine ⟨_,rfl,?_⟩
   clear pg
   replace mT:=aV mT hb
   replace m6:=aV m6 hb
   replace m7:=aV m7 hb
   replace m9:=aV m9 hb
   replace m10:=aV m10 hb
   replace m11:=aV m11 hb
   replace m12:=aV m12 hb
   replace mB:=dY mB hb
   clear hb
   refine hK.out _ _ ⟨((aa m7 0).trans rfl),((aa m7 1).trans rfl),((aa m7 2).trans rfl),((aa m7 3).trans rfl),((aa m9 0).trans rfl),((aa m9 1).trans rfl),((aa mT 10).trans rfl)⟩ (fun hHeld=>?_)
   clear hK K
   refine ek adx ?_
   exact ek af9 (hCont (Wx.heap.size) _ ⟨mT,m6,m7,m9,m10,m11,m12,mB,KR,rR,nG,yf,yg,kz,vH⟩)
 rintro g12 Wg ⟨mT,m6,m7,m9,m10,m11,m12,mB,KR,rR,nG,yf,yg,kz,vH⟩
 have hHeld:(Wg.cell? ⟨g7,0,none⟩ = some (.int .i64 rb.f0.f0)∧Wg.cell? ⟨g7,1,none⟩ = some (.int .i64 rb.f0.f1)∧Wg.cell? ⟨g7,2,none⟩ = some (.int .i64 rb.f1.f0)∧Wg.cell? ⟨g7,3,none⟩ = some (.int .i64 rb.f1.f1)∧Wg.cell? ⟨g9,0,none⟩ = some (.int .i64 hd)∧Wg.cell? ⟨g9,1,none⟩ = some (.int .i64 layer)∧Wg.cell? ⟨b,10,none⟩ = some (.int .i64 v.dive)):=⟨((aa m7 0).trans rfl),((aa m7 1).trans rfl),((aa m7 2).trans rfl),((aa m7 3).trans rfl),((aa m9 0).trans rfl),((aa m9 1).trans rfl),((aa mT 10).trans rfl)⟩
 refine ek (a':=?_) ?_ ?_
 rotate_left
 ·simp only [vQ,Act.put,List.setIfInBounds_toArray,List.set_cons_zero,List.set_cons_succ]
  rfl
 refine Qv (i:=14) (N:=none) #[true,true,true,true,true,true,true,true,true,true,true,true,true,true,true] rfl rfl aR (by decide) (fun K hK=>?_)
 have UE:=aX m12 0
 have UG:=(aa m12 0).trans rfl
 have UF:=aX m12 1
 have UH:=(aa m12 1).trans rfl
 have afY:=aX m12 2
 have af0:=(aa m12 2).trans rfl
 have afZ:=aX m12 3
 have af1:=(aa m12 3).trans rfl
 refine yc (w1:=?_) (by rfl) rfl ?_ ?_
 rotate_left
 ·go_simp
  rfl
 clear UE UG UF UH afY af0 afZ af1
 replace mT:iD (Wg.setCell ⟨g12,0,none⟩ (.int .i64 y.f0.f0)) b #[.int .i64 se.nx,.int .i64 se.ny,.int .i64 se.cell,.int .i64 se.slot,.int .i64 se.slots,.int .i64 se.layers,.int .i64 se.most,.slice A7 se.shores.length c7,.slice A8 se.currents.length c8,.int .i64 v.speed,.int .i64 v.dive,.int .i64 v.use.f0,.int .i64 v.use.f1,.int .i64 v.drift.f0,.int .i64 v.drift.f1,.int .i64 v.reserve] 110:=aM (p:=⟨g12,0,none⟩) mT rR _
 replace m6:iD (Wg.setCell ⟨g12,0,none⟩ (.int .i64 y.f0.f0)) g6 #[.int .i64 x.f0.f0,.int .i64 x.f0.f1,.int .i64 x.f1.f0,.int .i64 x.f1.f1] 31:=aM (p:=⟨g12,0,none⟩) m6 nG _
 replace m7:iD (Wg.setCell ⟨g12,0,none⟩ (.int .i64 y.f0.f0)) g7 #[.int .i64 rb.f0.f0,.int .i64 rb.f0.f1,.int .i64 rb.f1.f0,.int .i64 rb.f1.f1] 31:=aM (p:=⟨g12,0,none⟩) m7 yf _
 replace m9:iD (Wg.setCell ⟨g12,0,none⟩ (.int .i64 y.f0.f0)) g9 #[.int .i64 hd,.int .i64 layer] 33:=aM (p:=⟨g12,0,none⟩) m9 yg _
 replace m10:iD (Wg.setCell ⟨g12,0,none⟩ (.int .i64 y.f0.f0)) g10 #[.int .i64 0,.int .i64 0,.int .i64 0,.int .i64 0] 31:=aM (p:=⟨g12,0,none⟩) m10 kz _
 replace m11:iD (Wg.setCell ⟨g12,0,none⟩ (.int .i64 y.f0.f0)) g11 #[.int .i64 d0,.int .i64 d1] 161:=aM (p:=⟨g12,0,none⟩) m11 vH _
 replace m12:iD (Wg.setCell ⟨g12,0,none⟩ (.int .i64 y.f0.f0)) g12 #[.int .i64 y.f0.f0,.int .i64 0,.int .i64 0,.int .i64 0] 31:=aI m12 0 _ rfl
 replace mB:Below w.heap.size w (Wg.setCell ⟨g12,0,none⟩ (.int .i64 y.f0.f0)):=mB.setCell (p:=⟨g12,0,none⟩) KR _
 replace mT:iD ((Wg.setCell ⟨g12,0,none⟩ (.int .i64 y.f0.f0)).setCell ⟨g12,1,none⟩ (.int .i64 y.f0.f1)) b #[.int .i64 se.nx,.int .i64 se.ny,.int .i64 se.cell,.int .i64 se.slot,.int .i64 se.slots,.int .i64 se.layers,.int .i64 se.most,.slice A7 se.shores.length c7,.slice A8 se.currents.length c8,.int .i64 v.speed,.int .i64 v.dive,.int .i64 v.use.f0,.int .i64 v.use.f1,.int .i64 v.drift.f0,.int .i64 v.drift.f1,.int .i64 v.reserve] 110:=aM (p:=⟨g12,1,none⟩) mT rR _
 replace m6:iD ((Wg.setCell ⟨g12,0,none⟩ (.int .i64 y.f0.f0)).setCell ⟨g12,1,none⟩ (.int .i64 y.f0.f1)) g6 #[.int .i64 x.f0.f0,.int .i64 x.f0.f1,.int .i64 x.f1.f0,.int .i64 x.f1.f1] 31:=aM (p:=⟨g12,1,none⟩) m6 nG _
 replace m7:iD ((Wg.setCell ⟨g12,0,none⟩ (.int .i64 y.f0.f0)).setCell ⟨g12,1,none⟩ (.int .i64 y.f0.f1)) g7 #[.int .i64 rb.f0.f0,.int .i64 rb.f0.f1,.int .i64 rb.f1.f0,.int .i64 rb.f1.f1] 31:=aM (p:=⟨g12,1,none⟩) m7 yf _
 replace m9:iD ((Wg.setCell ⟨g12,0,none⟩ (.int .i64 y.f0.f0)).setCell ⟨g12,1,none⟩ (.int .i64 y.f0.f1)) g9 #[.int .i64 hd,.int .i64 layer] 33:=aM (p:=⟨g12,1,none⟩) m9 yg _
 replace m10:iD ((Wg.setCell ⟨g12,0,none⟩ (.int .i64 y.f0.f0)).setCell ⟨g12,1,none⟩ (.int .i64 y.f0.f1)) g10 #[.int .i64 0,.int .i64 0,.int .i64 0,.int .i64 0] 31:=aM (p:=⟨g12,1,none⟩) m10 kz _
 replace m11:iD ((Wg.setCell ⟨g12,0,none⟩ (.int .i64 y.f0.f0)).setCell ⟨g12,1,none⟩ (.int .i64 y.f0.f1)) g11 #[.int .i64 d0,.int .i64 d1] 161:=aM (p:=⟨g12,1,none⟩) m11 vH _
 replace m12:iD ((Wg.setCell ⟨g12,0,none⟩ (.int .i64 y.f0.f0)).setCell ⟨g12,1,none⟩ (.int .i64 y.f0.f1)) g12 #[.int .i64 y.f0.f0,.int .i64 y.f0.f1,.int .i64 0,.int .i64 0] 31:=aI m12 1 _ rfl
 replace mB:Below w.heap.size w ((Wg.setCell ⟨g12,0,none⟩ (.int .i64 y.f0.f0)).setCell ⟨g12,1,none⟩ (.int .i64 y.f0.f1)):=mB.setCell (p:=⟨g12,1,none⟩) KR _
 replace mT:iD (((Wg.setCell ⟨g12,0,none⟩ (.int .i64 y.f0.f0)).setCell ⟨g12,1,none⟩ (.int .i64 y.f0.f1)).setCell ⟨g12,2,none⟩ (.int .i64 y.f1.f0)) b #[.int .i64 se.nx,.int .i64 se.ny,.int .i64 se.cell,.int .i64 se.slot,.int .i64 se.slots,.int .i64 se.layers,.int .i64 se.most,.slice A7 se.shores.length c7,.slice A8 se.currents.length c8,.int .i64 v.speed,.int .i64 v.dive,.int .i64 v.use.f0,.int .i64 v.use.f1,.int .i64 v.drift.f0,.int .i64 v.drift.f1,.int .i64 v.reserve] 110:=aM (p:=⟨g12,2,none⟩) mT rR _
 replace m6:iD (((Wg.setCell ⟨g12,0,none⟩ (.int .i64 y.f0.f0)).setCell ⟨g12,1,none⟩ (.int .i64 y.f0.f1)).setCell ⟨g12,2,none⟩ (.int .i64 y.f1.f0)) g6 #[.int .i64 x.f0.f0,.int .i64 x.f0.f1,.int .i64 x.f1.f0,.int .i64 x.f1.f1] 31:=aM (p:=⟨g12,2,none⟩) m6 nG _
 replace m7:iD (((Wg.setCell ⟨g12,0,none⟩ (.int .i64 y.f0.f0)).setCell ⟨g12,1,none⟩ (.int .i64 y.f0.f1)).setCell ⟨g12,2,none⟩ (.int .i64 y.f1.f0)) g7 #[.int .i64 rb.f0.f0,.int .i64 rb.f0.f1,.int .i64 rb.f1.f0,.int .i64 rb.f1.f1] 31:=aM (p:=⟨g12,2,none⟩) m7 yf _
 replace m9:iD (((Wg.setCell ⟨g12,0,none⟩ (.int .i64 y.f0.f0)).setCell ⟨g12,1,none⟩ (.int .i64 y.f0.f1)).setCell ⟨g12,2,none⟩ (.int .i64 y.f1.f0)) g9 #[.int .i64 hd,.int .i64 layer] 33:=aM (p:=⟨g12,2,none⟩) m9 yg _
 replace m10:iD (((Wg.setCell ⟨g12,0,none⟩ (.int .i64 y.f0.f0)).setCell ⟨g12,1,none⟩ (.int .i64 y.f0.f1)).setCell ⟨g12,2,none⟩ (.int .i64 y.f1.f0)) g10 #[.int .i64 0,.int .i64 0,.int .i64 0,.int .i64 0] 31:=aM (p:=⟨g12,2,none⟩) m10 kz _
 replace m11:iD (((Wg.setCell ⟨g12,0,none⟩ (.int .i64 y.f0.f0)).setCell ⟨g12,1,none⟩ (.int .i64 y.f0.f1)).setCell ⟨g12,2,none⟩ (.int .i64 y.f1.f0)) g11 #[.int .i64 d0,.int .i64 d1] 161:=aM (p:=⟨g12,2,none⟩) m11 vH _
 replace m12:iD (((Wg.setCell ⟨g12,0,none⟩ (.int .i64 y.f0.f0)).setCell ⟨g12,1,none⟩ (.int .i64 y.f0.f1)).setCell ⟨g12,2,none⟩ (.int .i64 y.f1.f0)) g12 #[.int .i64 y.f0.f0,.int .i64 y.f0.f1,.int .i64 y.f1.f0,.int .i64 0] 31:=aI m12 2 _ rfl
 replace mB:Below w.heap.size w (((Wg.setCell ⟨g12,0,none⟩ (.int .i64 y.f0.f0)).setCell ⟨g12,1,none⟩ (.int .i64 y.f0.f1)).setCell ⟨g12,2,none⟩ (.int .i64 y.f1.f0)):=mB.setCell (p:=⟨g12,2,none⟩) KR _
 replace mT:iD ((((Wg.setCell ⟨g12,0,none⟩ (.int .i64 y.f0.f0)).setCell ⟨g12,1,none⟩ (.int .i64 y.f0.f1)).setCell ⟨g12,2,none⟩ (.int .i64 y.f1.f0)).setCell ⟨g12,3,none⟩ (.int .i64 y.f1.f1)) b #[.int .i64 se.nx,.int .i64 se.ny,.int .i64 se.cell,.int .i64 se.slot,.int .i64 se.slots,.int .i64 se.layers,.int .i64 se.most,.slice A7 se.shores.length c7,.slice A8 se.currents.length c8,.int .i64 v.speed,.int .i64 v.dive,.int .i64 v.use.f0,.int .i64 v.use.f1,.int .i64 v.drift.f0,.int .i64 v.drift.f1,.int .i64 v.reserve] 110:=aM (p:=⟨g12,3,none⟩) mT rR _
 replace m6:iD ((((Wg.setCell ⟨g12,0,none⟩ (.int .i64 y.f0.f0)).setCell ⟨g12,1,none⟩ (.int .i64 y.f0.f1)).setCell ⟨g12,2,none⟩ (.int .i64 y.f1.f0)).setCell ⟨g12,3,none⟩ (.int .i64 y.f1.f1)) g6 #[.int .i64 x.f0.f0,.int .i64 x.f0.f1,.int .i64 x.f1.f0,.int .i64 x.f1.f1] 31:=aM (p:=⟨g12,3,none⟩) m6 nG _
 replace m7:iD ((((Wg.setCell ⟨g12,0,none⟩ (.int .i64 y.f0.f0)).setCell ⟨g12,1,none⟩ (.int .i64 y.f0.f1)).setCell ⟨g12,2,none⟩ (.int .i64 y.f1.f0)).setCell ⟨g12,3,none⟩ (.int .i64 y.f1.f1)) g7 #[.int .i64 rb.f0.f0,.int .i64 rb.f0.f1,.int .i64 rb.f1.f0,.int .i64 rb.f1.f1] 31:=aM (p:=⟨g12,3,none⟩) m7 yf _
 replace m9:iD ((((Wg.setCell ⟨g12,0,none⟩ (.int .i64 y.f0.f0)).setCell ⟨g12,1,none⟩ (.int .i64 y.f0.f1)).setCell ⟨g12,2,none⟩ (.int .i64 y.f1.f0)).setCell ⟨g12,3,none⟩ (.int .i64 y.f1.f1)) g9 #[.int .i64 hd,.int .i64 layer] 33:=aM (p:=⟨g12,3,none⟩) m9 yg _
 replace m10:iD ((((Wg.setCell ⟨g12,0,none⟩ (.int .i64 y.f0.f0)).setCell ⟨g12,1,none⟩ (.int .i64 y.f0.f1)).setCell ⟨g12,2,none⟩ (.int .i64 y.f1.f0)).setCell ⟨g12,3,none⟩ (.int .i64 y.f1.f1)) g10 #[.int .i64 0,.int .i64 0,.int .i64 0,.int .i64 0] 31:=aM (p:=⟨g12,3,none⟩) m10 kz _
 replace m11:iD ((((Wg.setCell ⟨g12,0,none⟩ (.int .i64 y.f0.f0)).setCell ⟨g12,1,none⟩ (.int .i64 y.f0.f1)).setCell ⟨g12,2,none⟩ (.int .i64 y.f1.f0)).setCell ⟨g12,3,none⟩ (.int .i64 y.f1.f1)) g11 #[.int .i64 d0,.int .i64 d1] 161:=aM (p:=⟨g12,3,none⟩) m11 vH _
 replace m12:iD ((((Wg.setCell ⟨g12,0,none⟩ (.int .i64 y.f0.f0)).setCell ⟨g12,1,none⟩ (.int .i64 y.f0.f1)).setCell ⟨g12,2,none⟩ (.int .i64 y.f1.f0)).setCell ⟨g12,3,none⟩ (.int .i64 y.f1.f1)) g12 #[.int .i64 y.f0.f0,.int .i64 y.f0.f1,.int .i64 y.f1.f0,.int .i64 y.f1.f1] 31:=aI m12 3 _ rfl
 replace mB:Below w.heap.size w ((((Wg.setCell ⟨g12,0,none⟩ (.int .i64 y.f0.f0)).setCell ⟨g12,1,none⟩ (.int .i64 y.f0.f1)).setCell ⟨g12,2,none⟩ (.int .i64 y.f1.f0)).setCell ⟨g12,3,none⟩ (.int .i64 y.f1.f1)):=mB.setCell (p:=⟨g12,3,none⟩) KR _
 refine hK.out _ _ ?_
 clear hK K
 refine lC aR ?_
 try clear hHeld
 generalize xV:((((Wg.setCell ⟨g12,0,none⟩ (.int .i64 y.f0.f0)).setCell ⟨g12,1,none⟩ (.int .i64 y.f0.f1)).setCell ⟨g12,2,none⟩ (.int .i64 y.f1.f0)).setCell ⟨g12,3,none⟩ (.int .i64 y.f1.f1)) = W3 at mT m6 m7 m9 m10 m11 m12 mB ⊢
 clear xV
 have LW:w.heap.size≤W3.heap.size:=mB.size
 go_wp2_with fail
 replace mT:=ah mT
 replace m6:=ah m6
 replace m7:=ah m7
 replace m9:=ah m9
 replace m10:=ah m10
 replace m11:=ah m11
 replace m12:=ah m12
 replace mB:=bW mB
 refine jI (n:=30) (S:=fun w'=>w'.cell? ⟨g6,0,none⟩ = some (.int .i64 x.f0.f0)∧w'.cell? ⟨g6,1,none⟩ = some (.int .i64 x.f0.f1)∧w'.cell? ⟨g6,2,none⟩ = some (.int .i64 x.f1.f0)∧w'.cell? ⟨g6,3,none⟩ = some (.int .i64 x.f1.f1)∧w'.cell? ⟨g11,0,none⟩ = some (.int .i64 d0)∧w'.cell? ⟨g11,1,none⟩ = some (.int .i64 d1)∧w'.cell? ⟨g12,0,none⟩ = some (.int .i64 y.f0.f0)∧w'.cell? ⟨g12,1,none⟩ = some (.int .i64 y.f0.f1)∧w'.cell? ⟨g12,2,none⟩ = some (.int .i64 y.f1.f0)∧w'.cell? ⟨g12,3,none⟩ = some (.int .i64 y.f1.f1)∧w'.cell? ⟨b,9,none⟩ = some (.int .i64 v.speed)) (ds:=[29]) #[false,false,false,false,false,false,false,false,false,false,false,false,false,false,false,false,false,false,false,false,false,false,false,false,false,false,false,false,false,false] aR rfl rfl ⟨((aa m6 0).trans rfl),((aa m6 1).trans rfl),((aa m6 2).trans rfl),((aa m6 3).trans rfl),((aa m11 0).trans rfl),((aa m11 1).trans rfl),((aa m12 0).trans rfl),((aa m12 1).trans rfl),((aa m12 2).trans rfl),((aa m12 3).trans rfl),((aa mT 9).trans rfl)⟩ (fun hHeld=>?_)
 generalize hWd:World.drew _ = Wx at mT m6 m7 m9 m10 m11 m12 mB hHeld ⊢
 clear hWd
 refine dJ (i:=0) (N:=some 30) aR ?_
 refine dJ (i:=1) (N:=some 31) aR ?_
 refine dJ (i:=3) (N:=some 33) aR ?_
 refine dJ (i:=5) (N:=some 35) aR ?_
 refine dJ (i:=6) (N:=some 36) aR ?_
 refine dJ (i:=7) (N:=some 37) aR ?_
 refine dJ (i:=8) (N:=some 38) aR ?_
 refine dJ (i:=11) (N:=some 41) aR ?_
 refine dJ (i:=14) (N:=some 44) aR ?_
 refine dJ (i:=15) (N:=some 45) aR ?_
 refine dJ (i:=17) (N:=some 47) aR ?_
 refine dJ (i:=19) (N:=some 49) aR ?_
 refine dJ (i:=20) (N:=some 50) aR ?_
 refine dJ (i:=21) (N:=some 51) aR ?_
 refine dJ (i:=22) (N:=some 52) aR ?_
 refine dJ (i:=25) (N:=some 55) aR ?_
 refine ja (i:=2) (N:=some 32) aR hHeld ?_
 refine ja (i:=4) (N:=some 34) aR hHeld ?_
 refine ja (i:=9) (N:=some 39) aR hHeld ?_
 refine dJ (i:=10) (N:=some 40) aR ?_
 refine ja (i:=12) (N:=some 42) aR hHeld ?_
 refine ja (i:=16) (N:=some 46) aR hHeld ?_
 refine ja (i:=18) (N:=some 48) aR hHeld ?_
 refine ja (i:=23) (N:=some 53) aR hHeld ?_
 refine dJ (i:=24) (N:=some 54) aR ?_
 refine ja (i:=26) (N:=some 56) aR hHeld ?_
 refine jq (i:=13) (N:=some 43) #[true,true,true,true,true,true,true,true,true,true,true,true,true,true,true,true,true,true,true,true,true,true,true,true,true,true,true,false,false,false] rfl rfl aR (by decide) (fun K hK=>?_)
 have pg:=kS0 _ w2 Wx (hT.below mB)
 refine gV Try.func131 aR rfl #[.pointer (some ⟨b,0,none⟩),.agg #[.int .i64 x.f0.f0,.int .i64 x.f0.f1],.int .i64 (wrap64 (d0*v.speed)),.agg #[.int .i64 y.f0.f0,.int .i64 y.f0.f1]] (by rfl) rfl rfl abu ?_
 with_reducible refine (pg).mono ?_
 rintro e w13 ⟨rfl,hb⟩
 refine ⟨_,rfl,?_⟩
 clear pg
 replace mT:=aV mT hb
 replace m6:=aV m6 hb
 replace m7:=aV m7 hb
 replace m9:=aV m9 hb
 replace m10:=aV m10 hb
 replace m11:=aV m11 hb
 replace m12:=aV m12 hb
 replace mB:=dY mB hb
 clear hb
 refine hK.out _ _ ⟨((aa m6 0).trans rfl),((aa m6 1).trans rfl),((aa m6 2).trans rfl),((aa m6 3).trans rfl),((aa m11 0).trans rfl),((aa m11 1).trans rfl),((aa m12 0).trans rfl),((aa m12 1).trans rfl),((aa m12 2).trans rfl),((aa m12 3).trans rfl),((aa mT 9).trans rfl)⟩ (fun hHeld=>?_)
 clear hK K
 refine ek aoW ?_
 refine jq (i:=27) (N:=some 57) #[true,true,true,true,true,true,true,true,true,true,true,true,true,true,true,true,true,true,true,true,true,true,true,true,true,true,true,true,false,false] rfl rfl aR (by decide) (fun K hK=>?_)
 have pg:=kS1 _ w3 w13 (hT.below mB)
 refine gV Try.func131 aR rfl #[.pointer (some ⟨b,0,none⟩),.agg #[.int .i64 x.f1.f0,.int .i64 x.f1.f1],.int .i64 (wrap64 (d1*v.speed)),.agg #[.int .i64 y.f1.f0,.int .i64 y.f1.f1]] (by rfl) rfl rfl abu ?_
 with_reducible refine (pg).mono ?_
 rintro e w27 ⟨rfl,hb⟩
 refine ⟨_,rfl,?_⟩
 clear pg
 replace mT:=aV mT hb
 replace m6:=aV m6 hb
 replace m7:=aV m7 hb
 replace m9:=aV m9 hb
 replace m10:=aV m10 hb
 replace m11:=aV m11 hb
 replace m12:=aV m12 hb
 replace mB:=dY mB hb
 clear hb
 refine hK.out _ _ ⟨((aa m6 0).trans rfl),((aa m6 1).trans rfl),((aa m6 2).trans rfl),((aa m6 3).trans rfl),((aa m11 0).trans rfl),((aa m11 1).trans rfl),((aa m12 0).trans rfl),((aa m12 1).trans rfl),((aa m12 2).trans rfl),((aa m12 3).trans rfl),((aa mT 9).trans rfl)⟩ (fun hHeld=>?_)
 clear hK K
 refine ek (by show Act.put _ (some 57) _ = _;simp only [Act.put,List.setIfInBounds_toArray,List.set_cons_zero,List.set_cons_succ,fD,fJ];rfl) ?_
 refine dJ (i:=28) (N:=some 58) aR ?_
 refine Qv (i:=29) (N:=none) #[true,true,true,true,true,true,true,true,true,true,true,true,true,true,true,true,true,true,true,true,true,true,true,true,true,true,true,true,true,true] rfl rfl aR (by decide) (fun K hK=>?_)
 have UE:=aX m10 0
 have UF:=aX m10 1
 have afY:=aX m10 2
 have afZ:=aX m10 3
 have UG:=(aa m10 0).trans rfl
 have UH:=(aa m10 1).trans rfl
 have af0:=(aa m10 2).trans rfl
 have af1:=(aa m10 3).trans rfl
 refine yc (w1:=?_) (by rfl) rfl ?_ ?_
 rotate_left
 ·go_simp
  rfl
 refine hK.out _ _ ?_
 clear hK K
 refine lC aR ?_
 go_wp2
 exact bodyPost_ret (results_cell_row rfl _ _ g10 31 #[.int .i64 (nL v.dive x.f0 (d0*v.speed) y.f0).f0,.int .i64 (nL v.dive x.f0 (d0*v.speed) y.f0).f1,.int .i64 (nL v.dive x.f1 (d1*v.speed) y.f1).f0,.int .i64 (nL v.dive x.f1 (d1*v.speed) y.f1).f1] (0,0) _ rfl (aI (aI (aI (aI m10 0 (.int .i64 (nL v.dive x.f0 (d0*v.speed) y.f0).f0) rfl) 1 (.int .i64 (nL v.dive x.f0 (d0*v.speed) y.f0).f1) rfl) 2 (.int .i64 (nL v.dive x.f1 (d1*v.speed) y.f1).f0) rfl) 3 (.int .i64 (nL v.dive x.f1 (d1*v.speed) y.f1).f1) rfl) Try.underlying31 rfl aR) rfl ⟨by rw [HR.out],(Below.setCell (p:=⟨g10,3,none⟩) (Below.setCell (p:=⟨g10,2,none⟩) (Below.setCell (p:=⟨g10,1,none⟩) (Below.setCell (p:=⟨g10,0,none⟩) mB nX _) nX _) nX _) nX _)⟩
end Go.Proofs.Ytmhaiihjfgfaoaa.Gl
end
