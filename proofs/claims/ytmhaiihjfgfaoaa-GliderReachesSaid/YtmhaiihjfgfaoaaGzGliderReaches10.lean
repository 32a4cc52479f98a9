import Derived.Test.YtmhaiihjfgfaoaaGzGliderReaches3
import Derived.Test.YtmhaiihjfgfaoaaGzGliderReaches6
import Derived.Test.YtmhaiihjfgfaoaaGzGliderReaches9
open Go.Value renaming int → U
open Go.IntKind renaming i64 → Z
open Bool renaming true → ab, false → ac
section
namespace Go.Proofs.Ytmhaiihjfgfaoaa.Gl
open Go.RowKit Go.Shelf Go.Proofs.YtmhaiihjfgfaoaaW.PrintWords Go.Proofs.YtmhaiihjfgfaoaaW.PrintLast Go.Proofs.YtmhaiihjfgfaoaaW.PrintMore Go.Proofs.Ytmhaiihjfgfaoaa.Pr Go.Proofs.YtmhaiihjfgfaoaaW.Round
set_option linter.unusedVariables false
set_option linter.unusedSimpArgs false
attribute [local go_sem] eD eF fD fE eG
def G9 (h:Int):Int × Int:=if h = 0 then (0,1000) else if h = 1 then (707,707) else if h = 2 then (1000,0) else if h = 3 then (707,-707) else if h = 4 then (0,-1000) else if h = 5 then (-707,-707) else if h = 6 then (-1000,0) else if h = 7 then (-707,707) else if h = 8 then (0,0) else (0,0)
theorem PX (h:Int):(-1000≤(G9 h).1∧(G9 h).1≤1000)∧(-1000≤(G9 h).2∧(G9 h).2≤1000):=by
 unfold G9
 repeat' split
 all_goals decide
set_option maxRecDepth 100000 in
set_option maxHeartbeats 2000000 in
theorem Xx (w:World):Calls Try.prog 130 #[] w (sI (.agg #[U Z 0,U Z 1000,U Z 707,U Z 707,U Z 1000,U Z 0,U Z 707,U Z (-707),U Z 0,U Z (-1000),U Z (-707),U Z (-707),U Z (-1000),U Z 0,U Z (-707),U Z 707,U Z 0,U Z 0]) w):=by
 have axe:=Try.underlying162
 have axf:=Try.underlying161
 go_enter Try.func130,Try.ntmps130
 go_wp2
 exact bodyPost_ret (results_cell_row rfl _ _ w.heap.size 162 #[U Z 0,U Z 1000,U Z 707,U Z 707,U Z 1000,U Z 0,U Z 707,U Z (-707),U Z 0,U Z (-1000),U Z (-707),U Z (-707),U Z (-1000),U Z 0,U Z (-707),U Z 707,U Z 0,U Z 0] (0,0) _ rfl (eP w _) Try.underlying162 rfl aY) rfl ⟨rfl,aT (Below.refl _ w) _⟩
def kP (s:j3) (v:nz) (x rb:dO) (t heading layer:Int):dO:=⟨oZ v.dive x.f0 ((G9 heading).1*v.speed) (SB s rb layer t (t+v.dive)).f0,oZ v.dive x.f1 ((G9 heading).2*v.speed) (SB s rb layer t (t+v.dive)).f1⟩
set_option maxRecDepth 100000 in
set_option maxHeartbeats 8000000 in
theorem Ra (b:Nat) (se:j3) (v:nz) (x rb:dO) (t hd layer:Int) (w:World) (hT:jo w b se v) (hS:Dy se) (hV:wO v) (hcu:(se.currents.length:Int) = se.slots*se.layers*(se.nx*se.ny)) (hcb:auG se) (hx:EN x) (hr:Ty se rb) (ht0:0≤t) (ht2:t+v.dive≤se.slots*se.slot) (hh0:0≤hd) (hh1:hd≤8) (hl0:0≤layer) (hl1:layer < se.layers):
 Calls Try.prog 101 #[.pointer (some ⟨b,0,none⟩),.agg #[U Z x.f0.f0,U Z x.f0.f1,U Z x.f1.f0,U Z x.f1.f1],.agg #[U Z rb.f0.f0,U Z rb.f0.f1,U Z rb.f1.f0,U Z rb.f1.f1],U Z t,.agg #[U Z hd,U Z layer]] w (sI (.agg #[U Z (kP se v x rb t hd layer).f0.f0,U Z (kP se v x rb t hd layer).f0.f1,U Z (kP se v x rb t hd layer).f1.f0,U Z (kP se v x rb t hd layer).f1.f1]) w):=by
 have oP:=Try.underlying31
 have oo:=Try.underlying27
 have axf:=Try.underlying161
 have axe:=Try.underlying162
 have SH:=Try.underlying33
 have hdv:=hV.dive
 have hsp:=hV.speed
 have hss:=iF (show 0≤se.slots by have:=hS.slots;omega) hS.slots.2 (show 0≤se.slot by have:=hS.slot;omega) hS.slot.2
 have hix:∀ W_:World,(Instr.index 162 (.agg #[U Z 0,U Z 1000,U Z 707,U Z 707,U Z 1000,U Z 0,U Z 707,U Z (-707),U Z 0,U Z (-1000),U Z (-707),U Z (-707),U Z (-1000),U Z 0,U Z (-707),U Z 707,U Z 0,U Z 0]) (U Z hd)).run Try.prog W_ = .ok (.agg #[U Z (G9 hd).1,U Z (G9 hd).2]) W_:=by
  have h9:hd = 0∨hd = 1∨hd = 2∨hd = 3∨hd = 4∨hd = 5∨hd = 6∨hd = 7∨hd = 8:=by omega
  rcases h9 with rfl|rfl|rfl|rfl|rfl|rfl|rfl|rfl|rfl <;> exact fun W_=>by kernel_rfl
 have hdi:=PX hd
 have hai:=aa6 hcb rb layer t (t+v.dive)
 have kA:=fun u_ (hu_:u_ = t+v.dive) W (h:jo W b se v)=>auH b se v rb layer t u_ W h hS hr hcu hl0 hl1 ht0 (by omega) (by omega)
 have hyy:∀ u_,u_ = t+v.dive→SB se rb layer t u_ = SB se rb layer t (t+v.dive):=fun u_ h=>by rw [h]
 have HR:Hid (kP se v x rb t hd layer = ⟨oZ v.dive x.f0 ((G9 hd).1*v.speed) (SB se rb layer t (t+v.dive)).f0,oZ v.dive x.f1 ((G9 hd).2*v.speed) (SB se rb layer t (t+v.dive)).f1⟩):=Lib.hid rfl
 have kA:=fun u_ (hu_:u_ = t+v.dive) W (h:jo W b se v)=>by have h1:=kA u_ hu_ W h;rw [hyy u_ hu_] at h1;exact h1
 clear hyy
 generalize SB se rb layer t (t+v.dive) = y at*
 generalize G9 hd = d at*
 obtain ⟨d0,d1⟩:=d
 dsimp only at hdi hix HR
 have m0:=lV (a:=d0) (b:=v.speed) (m:=1000) (n:=5000) hdi.1.1 hdi.1.2 hsp.1 hsp.2 (by omega)
 have m1:=lV (a:=d1) (b:=v.speed) (m:=1000) (n:=5000) hdi.2.1 hdi.2.2 hsp.1 hsp.2 (by omega)
 have kS0:=fun z_ (hz_:z_ = d0*v.speed) W (h:jo W b se v)=>Tz b se v x.f0 z_ y.f0 W h hV hx.1 hx.2.1 (by omega) hai.1 hai.2.1
 have kS1:=fun z_ (hz_:z_ = d1*v.speed) W (h:jo W b se v)=>Tz b se v x.f1 z_ y.f1 W h hV hx.2.2.1 hx.2.2.2 (by omega) hai.2.2.1 hai.2.2.2.1
 have hT0:=hT
 obtain ⟨A7,c7,A8,c8,mT,_⟩:=hT0
 have w1:wrap64 (t+v.dive) = t+v.dive:=by unfold wrap64;omega
 have w2:wrap64 (d0*v.speed) = d0*v.speed:=by unfold wrap64;omega
 have w3:wrap64 (d1*v.speed) = d1*v.speed:=by unfold wrap64;omega
 clear hx hr hS hV hcu hcb hai hdi hss m0 m1 hdv hsp ht0 ht2 hh0 hh1 hl0 hl1
 go_enter Try.func101,Try.ntmps101
 go_wp2_with fail
 have wP:=bP mT
 have m6:eT ((((w.alloc (.cells #[U Z x.f0.f0,U Z x.f0.f1,U Z x.f1.f0,U Z x.f1.f1] 31)).alloc (.cells #[U Z rb.f0.f0,U Z rb.f0.f1,U Z rb.f1.f0,U Z rb.f1.f1] 31)).alloc (.cells #[U Z hd,U Z layer] 33)).alloc (.cells #[U Z 0,U Z 0,U Z 0,U Z 0] 31)) (w.heap.size) #[U Z x.f0.f0,U Z x.f0.f1,U Z x.f1.f0,U Z x.f1.f1] 31:=(ae (ae (ae ag9 _) _) _)
 have m7:eT ((((w.alloc (.cells #[U Z x.f0.f0,U Z x.f0.f1,U Z x.f1.f0,U Z x.f1.f1] 31)).alloc (.cells #[U Z rb.f0.f0,U Z rb.f0.f1,U Z rb.f1.f0,U Z rb.f1.f1] 31)).alloc (.cells #[U Z hd,U Z layer] 33)).alloc (.cells #[U Z 0,U Z 0,U Z 0,U Z 0] 31)) (w.heap.size+1) #[U Z rb.f0.f0,U Z rb.f0.f1,U Z rb.f1.f0,U Z rb.f1.f1] 31:=(ae (ae (by have h_:=eP (w.alloc (.cells #[U Z x.f0.f0,U Z x.f0.f1,U Z x.f1.f0,U Z x.f1.f1] 31)) (.cells #[U Z rb.f0.f0,U Z rb.f0.f1,U Z rb.f1.f0,U Z rb.f1.f1] 31);first|exact h_|(simp only [World.size_alloc] at h_;exact h_)) _) _)
 have m9:eT ((((w.alloc (.cells #[U Z x.f0.f0,U Z x.f0.f1,U Z x.f1.f0,U Z x.f1.f1] 31)).alloc (.cells #[U Z rb.f0.f0,U Z rb.f0.f1,U Z rb.f1.f0,U Z rb.f1.f1] 31)).alloc (.cells #[U Z hd,U Z layer] 33)).alloc (.cells #[U Z 0,U Z 0,U Z 0,U Z 0] 31)) (w.heap.size+1+1) #[U Z hd,U Z layer] 33:=(ae (by have h_:=eP ((w.alloc (.cells #[U Z x.f0.f0,U Z x.f0.f1,U Z x.f1.f0,U Z x.f1.f1] 31)).alloc (.cells #[U Z rb.f0.f0,U Z rb.f0.f1,U Z rb.f1.f0,U Z rb.f1.f1] 31)) (.cells #[U Z hd,U Z layer] 33);first|exact h_|(simp only [World.size_alloc] at h_;exact h_)) _)
 have m10:eT ((((w.alloc (.cells #[U Z x.f0.f0,U Z x.f0.f1,U Z x.f1.f0,U Z x.f1.f1] 31)).alloc (.cells #[U Z rb.f0.f0,U Z rb.f0.f1,U Z rb.f1.f0,U Z rb.f1.f1] 31)).alloc (.cells #[U Z hd,U Z layer] 33)).alloc (.cells #[U Z 0,U Z 0,U Z 0,U Z 0] 31)) (w.heap.size+1+1+1) #[U Z 0,U Z 0,U Z 0,U Z 0] 31:=(by have h_:=eP (((w.alloc (.cells #[U Z x.f0.f0,U Z x.f0.f1,U Z x.f1.f0,U Z x.f1.f1] 31)).alloc (.cells #[U Z rb.f0.f0,U Z rb.f0.f1,U Z rb.f1.f0,U Z rb.f1.f1] 31)).alloc (.cells #[U Z hd,U Z layer] 33)) (.cells #[U Z 0,U Z 0,U Z 0,U Z 0] 31);first|exact h_|(simp only [World.size_alloc] at h_;exact h_))
 replace mT:eT ((((w.alloc (.cells #[U Z x.f0.f0,U Z x.f0.f1,U Z x.f1.f0,U Z x.f1.f1] 31)).alloc (.cells #[U Z rb.f0.f0,U Z rb.f0.f1,U Z rb.f1.f0,U Z rb.f1.f1] 31)).alloc (.cells #[U Z hd,U Z layer] 33)).alloc (.cells #[U Z 0,U Z 0,U Z 0,U Z 0] 31)) b #[U Z se.nx,U Z se.ny,U Z se.cell,U Z se.slot,U Z se.slots,U Z se.layers,U Z se.most,.slice A7 se.shores.length c7,.slice A8 se.currents.length c8,U Z v.speed,U Z v.dive,U Z v.use.f0,U Z v.use.f1,U Z v.drift.f0,U Z v.drift.f1,U Z v.reserve] 110:=(ae (ae (ae (ae mT _) _) _) _)
 have mB:Below w.heap.size w ((((w.alloc (.cells #[U Z x.f0.f0,U Z x.f0.f1,U Z x.f1.f0,U Z x.f1.f1] 31)).alloc (.cells #[U Z rb.f0.f0,U Z rb.f0.f1,U Z rb.f1.f0,U Z rb.f1.f1] 31)).alloc (.cells #[U Z hd,U Z layer] 33)).alloc (.cells #[U Z 0,U Z 0,U Z 0,U Z 0] 31)):=(aT (aT (aT (aT (Below.refl w.heap.size w) _) _) _) _)
 have jS:w.heap.size≤w.heap.size:=Nat.le_refl _
 generalize qL:((((w.alloc (.cells #[U Z x.f0.f0,U Z x.f0.f1,U Z x.f1.f0,U Z x.f1.f1] 31)).alloc (.cells #[U Z rb.f0.f0,U Z rb.f0.f1,U Z rb.f1.f0,U Z rb.f1.f1] 31)).alloc (.cells #[U Z hd,U Z layer] 33)).alloc (.cells #[U Z 0,U Z 0,U Z 0,U Z 0] 31)) = W1 at mT m6 m7 m9 m10 mB ⊢
 clear qL
 generalize UC:w.heap.size = g6 at m6 m7 m9 m10 ⊢
 have EO:b≠g6:=by omega
 have Rb:g6≠b:=EO.symm
 have SC:w.heap.size≤g6:=by omega
 generalize hg7:g6+1 = g7 at m7 m9 m10 ⊢
 have wQ:b≠g7:=by omega
 have iy:g6≠g7:=by omega
 have ZJ:g7≠b:=wQ.symm
 have Rc:g7≠g6:=iy.symm
 have hG7:w.heap.size≤g7:=by omega
 generalize hg9:g7+1 = g9 at m9 m10 ⊢
 have Re:b≠g9:=by omega
 have Rf:g6≠g9:=by omega
 have Rh:g7≠g9:=by omega
 have aha:g9≠b:=Re.symm
 have ahb:g9≠g6:=Rf.symm
 have ahc:g9≠g7:=Rh.symm
 have hG9:w.heap.size≤g9:=by omega
 generalize UD:g9+1 = g10 at m10 ⊢
 have PY:b≠g10:=by omega
 have mE:g6≠g10:=by omega
 have EP:g7≠g10:=by omega
 have UE:g9≠g10:=by omega
 have aa7:g10≠b:=PY.symm
 have PZ:g10≠g6:=mE.symm
 have UF:g10≠g7:=EP.symm
 have akz:g10≠g9:=UE.symm
 have pz:w.heap.size≤g10:=by omega
 clear jS wP
 try clear UD
 try clear hg9
 try clear hg7
 try clear UC
 have wG:w.heap.size≤W1.heap.size:=mB.size
 replace mT:=ag mT
 replace m6:=ag m6
 replace m7:=ag m7
 replace m9:=ag m9
 replace m10:=ag m10
 replace mB:=bU mB
 refine jT (n:=6) (S:=fun w'=>w'.cell? ⟨g9,0,none⟩ = some (U Z hd)∧w'.cell? ⟨g9,1,none⟩ = some (U Z layer)) (ds:=[5]) #[ac,ac,ac,ac,ac,ac] aY rfl rfl ⟨((af m9 0).trans rfl),((af m9 1).trans rfl)⟩ (fun hHeld=>?_)
 generalize hWd:World.drew _ = Wx at mT m6 m7 m9 m10 mB hHeld ⊢
 clear hWd
 refine dW (i:=1) (N:=some 14) aY ?_
 refine ja (i:=2) (N:=some 15) aY hHeld ?_
 refine aa8 (σ:=Nat) 1 #[ab,ab,ab,ab,ab,ac] (fun s=>[(13,.agg #[U Z 0,U Z 1000,U Z 707,U Z 707,U Z 1000,U Z 0,U Z 707,U Z (-707),U Z 0,U Z (-1000),U Z (-707),U Z (-707),U Z (-1000),U Z 0,U Z (-707),U Z 707,U Z 0,U Z 0]),(16,.agg #[U Z d0,U Z d1]),(11,.pointer (some ⟨s,0,none⟩))]) (fun s w'=>eT w' b #[U Z se.nx,U Z se.ny,U Z se.cell,U Z se.slot,U Z se.slots,U Z se.layers,U Z se.most,.slice A7 se.shores.length c7,.slice A8 se.currents.length c8,U Z v.speed,U Z v.dive,U Z v.use.f0,U Z v.use.f1,U Z v.drift.f0,U Z v.drift.f1,U Z v.reserve] 110∧eT w' g6 #[U Z x.f0.f0,U Z x.f0.f1,U Z x.f1.f0,U Z x.f1.f1] 31∧eT w' g7 #[U Z rb.f0.f0,U Z rb.f0.f1,U Z rb.f1.f0,U Z rb.f1.f1] 31∧eT w' g9 #[U Z hd,U Z layer] 33∧eT w' g10 #[U Z 0,U Z 0,U Z 0,U Z 0] 31∧eT w' (s) #[U Z 0,U Z 0] 161∧Below w.heap.size w w'∧w.heap.size≤s∧b≠s∧g6≠s∧g7≠s∧g9≠s∧g10≠s) ?_ ?_
 rotate_left
 ·intro hCont
  refine afa (i:=0) (j:=4) (Ni:=some 13) (Nj:=some 11) #[ab,ab,ab,ac,ac,ac] #[ac,ab,ab,ac,ab,ac] rfl rfl rfl rfl aY (by decide) (by decide) (fun K hK=>?_) (fun K hK=>?_)
  ·skip
   have kF:=Xx (Wx)
   refine gQ Try.func130 aY rfl #[] (by rfl) rfl rfl (by simp only [List.map_toArray,List.map_cons,List.map_nil]) ?_
   with_reducible refine (kF).mono ?_
   rintro e w0 ⟨rfl,hb⟩
   refine ⟨_,rfl,?_⟩
   clear kF
   replace mT:=av mT hb
   replace m6:=av m6 hb
   replace m7:=av m7 hb
   replace m9:=av m9 hb
   replace m10:=av m10 hb
   replace mB:=bO mB hb
   clear hb
   refine hK.out _ _ ⟨((af m9 0).trans rfl),((af m9 1).trans rfl)⟩ (fun hHeld=>?_)
   clear hK K
   refine eY ZK ?_
   refine ja (i:=3) (N:=some 16) aY hHeld ?_
   refine jJ (i:=4) (N:=some 11) #[ab,ab,ab,ab,ab,ac] rfl rfl aY (by decide) (fun K hK=>?_)
   have Af:b≠w0.heap.size:=by have h_:=bP mT;omega
   have sS:g6≠w0.heap.size:=by have h_:=bP m6;omega
   have Ag:g7≠w0.heap.size:=by have h_:=bP m7;omega
   have Iw:g9≠w0.heap.size:=by have h_:=bP m9;omega
   have D6:g10≠w0.heap.size:=by have h_:=bP m10;omega
   have Xy:w.heap.size≤w0.heap.size:=by have h_:=mB.size;omega
   replace mT:=ae mT (.cells #[U Z 0,U Z 0] 161)
   replace m6:=ae m6 (.cells #[U Z 0,U Z 0] 161)
   replace m7:=ae m7 (.cells #[U Z 0,U Z 0] 161)
   replace m9:=ae m9 (.cells #[U Z 0,U Z 0] 161)
   replace m10:=ae m10 (.cells #[U Z 0,U Z 0] 161)
   have m11:eT (w0.alloc (.cells #[U Z 0,U Z 0] 161)) (w0.heap.size) #[U Z 0,U Z 0] 161:=by have h_:=eP w0 (.cells #[U Z 0,U Z 0] 161);first|exact h_|(simp only [World.size_alloc] at h_;exact h_)
   replace mB:=aT mB (.cells #[U Z 0,U Z 0] 161)
   refine Nu (w1:=?_) (v:=?_) (by rfl) rfl ?_ ?_
   rotate_left 2
   ·go_simp
    constructor
    ·rfl
    ·rfl
   refine hK.out _ _ ⟨((af m9 0).trans rfl),((af m9 1).trans rfl)⟩ (fun hHeld=>?_)
   clear hK K
   refine eY axg ?_
   exact eY akA (hCont (w0.heap.size) _ ⟨mT,m6,m7,m9,m10,m11,mB,Xy,Af,sS,Ag,Iw,D6⟩)
  ·skip
   have Af:b≠Wx.heap.size:=by have h_:=bP mT;omega
   have sS:g6≠Wx.heap.size:=by have h_:=bP m6;omega
   have Ag:g7≠Wx.heap.size:=by have h_:=bP m7;omega
   have Iw:g9≠Wx.heap.size:=by have h_:=bP m9;omega
   have D6:g10≠Wx.heap.size:=by have h_:=bP m10;omega
   have Xy:w.heap.size≤Wx.heap.size:=by have h_:=mB.size;omega
   replace mT:=ae mT (.cells #[U Z 0,U Z 0] 161)
   replace m6:=ae m6 (.cells #[U Z 0,U Z 0] 161)
   replace m7:=ae m7 (.cells #[U Z 0,U Z 0] 161)
   replace m9:=ae m9 (.cells #[U Z 0,U Z 0] 161)
   replace m10:=ae m10 (.cells #[U Z 0,U Z 0] 161)
   have m11:eT (Wx.alloc (.cells #[U Z 0,U Z 0] 161)) (Wx.heap.size) #[U Z 0,U Z 0] 161:=by have h_:=eP Wx (.cells #[U Z 0,U Z 0] 161);first|exact h_|(simp only [World.size_alloc] at h_;exact h_)
   replace mB:=aT mB (.cells #[U Z 0,U Z 0] 161)
   refine Nu (w1:=?_) (v:=?_) (by rfl) rfl ?_ ?_
   rotate_left 2
   ·go_simp
    constructor
    ·rfl
    ·rfl
   refine hK.out _ _ ⟨((af m9 0).trans rfl),((af m9 1).trans rfl)⟩ (fun hHeld=>?_)
   clear hK K
   refine eY axg ?_
   refine jJ (i:=0) (N:=some 13) #[ab,ab,ab,ac,ab,ac] rfl rfl aY (by decide) (fun K hK=>?_)
   have kF:=Xx ((Wx.alloc (.cells #[U Z 0,U Z 0] 161)))
   refine gQ Try.func130 aY rfl #[] (by rfl) rfl rfl (by simp only [List.map_toArray,List.map_cons,List.map_nil]) ?_
   with_reducible refine (kF).mono ?_
   rintro e w0 ⟨rfl,hb⟩
   refine ⟨_,rfl,?_⟩
   clear kF
   replace mT:=av mT hb
   replace m6:=av m6 hb
   replace m7:=av m7 hb
   replace m9:=av m9 hb
   replace m10:=av m10 hb
   replace m11:=av m11 hb
   replace mB:=bO mB hb
   clear hb
   refine hK.out _ _ ⟨((af m9 0).trans rfl),((af m9 1).trans rfl)⟩ (fun hHeld=>?_)
   clear hK K
   refine eY ZK ?_
   refine ja (i:=3) (N:=some 16) aY hHeld ?_
   exact eY akA (hCont (Wx.heap.size) _ ⟨mT,m6,m7,m9,m10,m11,mB,Xy,Af,sS,Ag,Iw,D6⟩)
 rintro g11 Wg ⟨mT,m6,m7,m9,m10,m11,mB,Xy,Af,sS,Ag,Iw,D6⟩
 have hHeld:(Wg.cell? ⟨g9,0,none⟩ = some (U Z hd)∧Wg.cell? ⟨g9,1,none⟩ = some (U Z layer)):=⟨((af m9 0).trans rfl),((af m9 1).trans rfl)⟩
 refine eY (a':=?_) ?_ ?_
 rotate_left
 ·simp only [Dz,Act.put,List.setIfInBounds_toArray,List.set_cons_zero,List.set_cons_succ]
  rfl
 refine Kg (i:=5) (N:=none) #[ab,ab,ab,ab,ab,ab] rfl rfl aY (by decide) (fun K hK=>?_)
 have K7:=bn m11 0
 have K8:=(af m11 0).trans rfl
 have PH:=bn m11 1
 have PI:=(af m11 1).trans rfl
 refine zD (w1:=?_) (by rfl) rfl ?_ ?_
 rotate_left
 ·go_simp
  rfl
 clear K7 K8 PH PI
 replace mT:eT (Wg.setCell ⟨g11,0,none⟩ (U Z d0)) b #[U Z se.nx,U Z se.ny,U Z se.cell,U Z se.slot,U Z se.slots,U Z se.layers,U Z se.most,.slice A7 se.shores.length c7,.slice A8 se.currents.length c8,U Z v.speed,U Z v.dive,U Z v.use.f0,U Z v.use.f1,U Z v.drift.f0,U Z v.drift.f1,U Z v.reserve] 110:=aj (p:=⟨g11,0,none⟩) mT Af _
 replace m6:eT (Wg.setCell ⟨g11,0,none⟩ (U Z d0)) g6 #[U Z x.f0.f0,U Z x.f0.f1,U Z x.f1.f0,U Z x.f1.f1] 31:=aj (p:=⟨g11,0,none⟩) m6 sS _
 replace m7:eT (Wg.setCell ⟨g11,0,none⟩ (U Z d0)) g7 #[U Z rb.f0.f0,U Z rb.f0.f1,U Z rb.f1.f0,U Z rb.f1.f1] 31:=aj (p:=⟨g11,0,none⟩) m7 Ag _
 replace m9:eT (Wg.setCell ⟨g11,0,none⟩ (U Z d0)) g9 #[U Z hd,U Z layer] 33:=aj (p:=⟨g11,0,none⟩) m9 Iw _
 replace m10:eT (Wg.setCell ⟨g11,0,none⟩ (U Z d0)) g10 #[U Z 0,U Z 0,U Z 0,U Z 0] 31:=aj (p:=⟨g11,0,none⟩) m10 D6 _
 replace m11:eT (Wg.setCell ⟨g11,0,none⟩ (U Z d0)) g11 #[U Z d0,U Z 0] 161:=aI m11 0 _ rfl
 replace mB:Below w.heap.size w (Wg.setCell ⟨g11,0,none⟩ (U Z d0)):=mB.setCell (p:=⟨g11,0,none⟩) Xy _
 replace mT:eT ((Wg.setCell ⟨g11,0,none⟩ (U Z d0)).setCell ⟨g11,1,none⟩ (U Z d1)) b #[U Z se.nx,U Z se.ny,U Z se.cell,U Z se.slot,U Z se.slots,U Z se.layers,U Z se.most,.slice A7 se.shores.length c7,.slice A8 se.currents.length c8,U Z v.speed,U Z v.dive,U Z v.use.f0,U Z v.use.f1,U Z v.drift.f0,U Z v.drift.f1,U Z v.reserve] 110:=aj (p:=⟨g11,1,none⟩) mT Af _
 replace m6:eT ((Wg.setCell ⟨g11,0,none⟩ (U Z d0)).setCell ⟨g11,1,none⟩ (U Z d1)) g6 #[U Z x.f0.f0,U Z x.f0.f1,U Z x.f1.f0,U Z x.f1.f1] 31:=aj (p:=⟨g11,1,none⟩) m6 sS _
 replace m7:eT ((Wg.setCell ⟨g11,0,none⟩ (U Z d0)).setCell ⟨g11,1,none⟩ (U Z d1)) g7 #[U Z rb.f0.f0,U Z rb.f0.f1,U Z rb.f1.f0,U Z rb.f1.f1] 31:=aj (p:=⟨g11,1,none⟩) m7 Ag _
 replace m9:eT ((Wg.setCell ⟨g11,0,none⟩ (U Z d0)).setCell ⟨g11,1,none⟩ (U Z d1)) g9 #[U Z hd,U Z layer] 33:=aj (p:=⟨g11,1,none⟩) m9 Iw _
 replace m10:eT ((Wg.setCell ⟨g11,0,none⟩ (U Z d0)).setCell ⟨g11,1,none⟩ (U Z d1)) g10 #[U Z 0,U Z 0,U Z 0,U Z 0] 31:=aj (p:=⟨g11,1,none⟩) m10 D6 _
 replace m11:eT ((Wg.setCell ⟨g11,0,none⟩ (U Z d0)).setCell ⟨g11,1,none⟩ (U Z d1)) g11 #[U Z d0,U Z d1] 161:=aI m11 1 _ rfl
 replace mB:Below w.heap.size w ((Wg.setCell ⟨g11,0,none⟩ (U Z d0)).setCell ⟨g11,1,none⟩ (U Z d1)):=mB.setCell (p:=⟨g11,1,none⟩) Xy _
 refine hK.out _ _ ?_
 clear hK K
 refine lI aY ?_
 try clear hHeld
 generalize qL:((Wg.setCell ⟨g11,0,none⟩ (U Z d0)).setCell ⟨g11,1,none⟩ (U Z d1)) = W2 at mT m6 m7 m9 m10 m11 mB ⊢
 clear qL
 have sO:w.heap.size≤W2.heap.size:=mB.size
 go_wp2_with fail
 replace mT:=ag mT
 replace m6:=ag m6
 replace m7:=ag m7
 replace m9:=ag m9
 replace m10:=ag m10
 replace m11:=ag m11
 replace mB:=bU mB
 refine jT (n:=15) (S:=fun w'=>w'.cell? ⟨g7,0,none⟩ = some (U Z rb.f0.f0)∧w'.cell? ⟨g7,1,none⟩ = some (U Z rb.f0.f1)∧w'.cell? ⟨g7,2,none⟩ = some (U Z rb.f1.f0)∧w'.cell? ⟨g7,3,none⟩ = some (U Z rb.f1.f1)∧w'.cell? ⟨g9,0,none⟩ = some (U Z hd)∧w'.cell? ⟨g9,1,none⟩ = some (U Z layer)∧w'.cell? ⟨b,10,none⟩ = some (U Z v.dive)) (ds:=[14]) #[ac,ac,ac,ac,ac,ac,ac,ac,ac,ac,ac,ac,ac,ac,ac] aY rfl rfl ⟨((af m7 0).trans rfl),((af m7 1).trans rfl),((af m7 2).trans rfl),((af m7 3).trans rfl),((af m9 0).trans rfl),((af m9 1).trans rfl),((af mT 10).trans rfl)⟩ (fun hHeld=>?_)
 generalize hWd:World.drew _ = Wx at mT m6 m7 m9 m10 m11 mB hHeld ⊢
 clear hWd
 refine dW (i:=0) (N:=some 17) aY ?_
 refine dW (i:=2) (N:=some 19) aY ?_
 refine dW (i:=4) (N:=some 21) aY ?_
 refine dW (i:=5) (N:=some 22) aY ?_
 refine dW (i:=6) (N:=some 23) aY ?_
 refine dW (i:=7) (N:=some 24) aY ?_
 refine dW (i:=8) (N:=some 25) aY ?_
 refine dW (i:=9) (N:=some 26) aY ?_
 refine ja (i:=1) (N:=some 18) aY hHeld ?_
 refine ja (i:=3) (N:=some 20) aY hHeld ?_
 refine ja (i:=10) (N:=some 27) aY hHeld ?_
 refine dW (i:=11) (N:=some 28) aY ?_
 refine aa8 (σ:=Nat) 1 #[ab,ab,ab,ab,ab,ab,ab,ab,ab,ab,ab,ab,ab,ab,ac] (fun s=>[(29,.agg #[U Z y.f0.f0,U Z y.f0.f1,U Z y.f1.f0,U Z y.f1.f1]),(12,.pointer (some ⟨s,0,none⟩))]) (fun s w'=>eT w' b #[U Z se.nx,U Z se.ny,U Z se.cell,U Z se.slot,U Z se.slots,U Z se.layers,U Z se.most,.slice A7 se.shores.length c7,.slice A8 se.currents.length c8,U Z v.speed,U Z v.dive,U Z v.use.f0,U Z v.use.f1,U Z v.drift.f0,U Z v.drift.f1,U Z v.reserve] 110∧eT w' g6 #[U Z x.f0.f0,U Z x.f0.f1,U Z x.f1.f0,U Z x.f1.f1] 31∧eT w' g7 #[U Z rb.f0.f0,U Z rb.f0.f1,U Z rb.f1.f0,U Z rb.f1.f1] 31∧eT w' g9 #[U Z hd,U Z layer] 33∧eT w' g10 #[U Z 0,U Z 0,U Z 0,U Z 0] 31∧eT w' g11 #[U Z d0,U Z d1] 161∧eT w' (s) #[U Z 0,U Z 0,U Z 0,U Z 0] 31∧Below w.heap.size w w'∧w.heap.size≤s∧b≠s∧g6≠s∧g7≠s∧g9≠s∧g10≠s∧g11≠s) ?_ ?_
 rotate_left
 ·intro hCont
  refine afa (i:=12) (j:=13) (Ni:=some 29) (Nj:=some 12) #[ab,ab,ab,ab,ab,ab,ab,ab,ab,ab,ab,ab,ab,ac,ac] #[ab,ab,ab,ab,ab,ab,ab,ab,ab,ab,ab,ab,ac,ab,ac] rfl rfl rfl rfl aY (by decide) (by decide) (fun K hK=>?_) (fun K hK=>?_)
  ·skip
   have kF:=kA _ w1 (Wx) (hT.below mB)
   refine gQ Try.func70 aY rfl #[.pointer (some ⟨b,0,none⟩),.agg #[U Z rb.f0.f0,U Z rb.f0.f1,U Z rb.f1.f0,U Z rb.f1.f1],U Z layer,U Z t,U Z (wrap64 (t+v.dive))] (by rfl) rfl rfl PK ?_
   with_reducible refine (kF).mono ?_
   rintro e Nv ⟨rfl,hb⟩
   refine ⟨_,rfl,?_⟩
   clear kF
   replace mT:=av mT hb
   replace m6:=av m6 hb
   replace m7:=av m7 hb
   replace m9:=av m9 hb
   replace m10:=av m10 hb
   replace m11:=av m11 hb
   replace mB:=bO mB hb
   clear hb
   refine hK.out _ _ ⟨((af m7 0).trans rfl),((af m7 1).trans rfl),((af m7 2).trans rfl),((af m7 3).trans rfl),((af m9 0).trans rfl),((af m9 1).trans rfl),((af mT 10).trans rfl)⟩ (fun hHeld=>?_)
   clear hK K
   refine eY auJ ?_
   refine jJ (i:=13) (N:=some 12) #[ab,ab,ab,ab,ab,ab,ab,ab,ab,ab,ab,ab,ab,ab,ac] rfl rfl aY (by decide) (fun K hK=>?_)
   have uY:b≠Nv.heap.size:=by have h_:=bP mT;omega
   have oU:g6≠Nv.heap.size:=by have h_:=bP m6;omega
   have Cg:g7≠Nv.heap.size:=by have h_:=bP m7;omega
   have Ch:g9≠Nv.heap.size:=by have h_:=bP m9;omega
   have kQ:g10≠Nv.heap.size:=by have h_:=bP m10;omega
   have zF:g11≠Nv.heap.size:=by have h_:=bP m11;omega
   have Nw:w.heap.size≤Nv.heap.size:=by have h_:=mB.size;omega
   replace mT:=ae mT (.cells #[U Z 0,U Z 0,U Z 0,U Z 0] 31)
   replace m6:=ae m6 (.cells #[U Z 0,U Z 0,U Z 0,U Z 0] 31)
   replace m7:=ae m7 (.cells #[U Z 0,U Z 0,U Z 0,U Z 0] 31)
   replace m9:=ae m9 (.cells #[U Z 0,U Z 0,U Z 0,U Z 0] 31)
   replace m10:=ae m10 (.cells #[U Z 0,U Z 0,U Z 0,U Z 0] 31)
   replace m11:=ae m11 (.cells #[U Z 0,U Z 0,U Z 0,U Z 0] 31)
   have m12:eT (Nv.alloc (.cells #[U Z 0,U Z 0,U Z 0,U Z 0] 31)) (Nv.heap.size) #[U Z 0,U Z 0,U Z 0,U Z 0] 31:=by have h_:=eP Nv (.cells #[U Z 0,U Z 0,U Z 0,U Z 0] 31);first|exact h_|(simp only [World.size_alloc] at h_;exact h_)
   replace mB:=aT mB (.cells #[U Z 0,U Z 0,U Z 0,U Z 0] 31)
   refine Nu (w1:=?_) (v:=?_) (by rfl) rfl ?_ ?_
   rotate_left 2
   ·go_simp
    constructor
    ·rfl
    ·rfl
   refine hK.out _ _ ⟨((af m7 0).trans rfl),((af m7 1).trans rfl),((af m7 2).trans rfl),((af m7 3).trans rfl),((af m9 0).trans rfl),((af m9 1).trans rfl),((af mT 10).trans rfl)⟩ (fun hHeld=>?_)
   clear hK K
   refine eY axh ?_
   exact eY akA (hCont (Nv.heap.size) _ ⟨mT,m6,m7,m9,m10,m11,m12,mB,Nw,uY,oU,Cg,Ch,kQ,zF⟩)
  ·skip
   have uY:b≠Wx.heap.size:=by have h_:=bP mT;omega
   have oU:g6≠Wx.heap.size:=by have h_:=bP m6;omega
   have Cg:g7≠Wx.heap.size:=by have h_:=bP m7;omega
   have Ch:g9≠Wx.heap.size:=by have h_:=bP m9;omega
   have kQ:g10≠Wx.heap.size:=by have h_:=bP m10;omega
   have zF:g11≠Wx.heap.size:=by have h_:=bP m11;omega
   have Nw:w.heap.size≤Wx.heap.size:=by have h_:=mB.size;omega
   replace mT:=ae mT (.cells #[U Z 0,U Z 0,U Z 0,U Z 0] 31)
   replace m6:=ae m6 (.cells #[U Z 0,U Z 0,U Z 0,U Z 0] 31)
   replace m7:=ae m7 (.cells #[U Z 0,U Z 0,U Z 0,U Z 0] 31)
   replace m9:=ae m9 (.cells #[U Z 0,U Z 0,U Z 0,U Z 0] 31)
   replace m10:=ae m10 (.cells #[U Z 0,U Z 0,U Z 0,U Z 0] 31)
   replace m11:=ae m11 (.cells #[U Z 0,U Z 0,U Z 0,U Z 0] 31)
   have m12:eT (Wx.alloc (.cells #[U Z 0,U Z 0,U Z 0,U Z 0] 31)) (Wx.heap.size) #[U Z 0,U Z 0,U Z 0,U Z 0] 31:=by have h_:=eP Wx (.cells #[U Z 0,U Z 0,U Z 0,U Z 0] 31);first|exact h_|(simp only [World.size_alloc] at h_;exact h_)
   replace mB:=aT mB (.cells #[U Z 0,U Z 0,U Z 0,U Z 0] 31)
   refine Nu (w1:=?_) (v:=?_) (by rfl) rfl ?_ ?_
   rotate_left 2
   ·go_simp
    constructor
    ·rfl
    ·rfl
   refine hK.out _ _ ⟨((af m7 0).trans rfl),((af m7 1).trans rfl),((af m7 2).trans rfl),((af m7 3).trans rfl),((af m9 0).trans rfl),((af m9 1).trans rfl),((af mT 10).trans rfl)⟩ (fun hHeld=>?_)
   clear hK K
   refine eY axh ?_
   refine jJ (i:=12) (N:=some 29) #[ab,ab,ab,ab,ab,ab,ab,ab,ab,ab,ab,ab,ab,ab,ac] rfl rfl aY (by decide) (fun K hK=>?_)
   have kF:=kA _ w1 ((Wx.alloc (.cells #[U Z 0,U Z 0,U Z 0,U Z 0] 31))) (hT.below mB)
   refine gQ Try.func70 aY rfl #[.pointer (some ⟨b,0,none⟩),.agg #[U Z rb.f0.f0,U Z rb.f0.f1,U Z rb.f1.f0,U Z rb.f1.f1],U Z layer,U Z t,U Z (wrap64 (t+v.dive))] (by rfl) rfl rfl PK ?_
   with_reducible refine (kF).mono ?_
   rintro e Nv ⟨rfl,hb⟩
   refine ⟨_,rfl,?_⟩
   clear kF
   replace mT:=av mT hb
   replace m6:=av m6 hb
   replace m7:=av m7 hb
   replace m9:=av m9 hb
   replace m10:=av m10 hb
   replace m11:=av m11 hb
   replace m12:=av m12 hb
   replace mB:=bO mB hb
   clear hb
   refine hK.out _ _ ⟨((af m7 0).trans rfl),((af m7 1).trans rfl),((af m7 2).trans rfl),((af m7 3).trans rfl),((af m9 0).trans rfl),((af m9 1).trans rfl),((af mT 10).trans rfl)⟩ (fun hHeld=>?_)
   clear hK K
   refine eY auJ ?_
   exact eY akA (hCont (Wx.heap.size) _ ⟨mT,m6,m7,m9,m10,m11,m12,mB,Nw,uY,oU,Cg,Ch,kQ,zF⟩)
 rintro g12 Wg ⟨mT,m6,m7,m9,m10,m11,m12,mB,Nw,uY,oU,Cg,Ch,kQ,zF⟩
 have hHeld:(Wg.cell? ⟨g7,0,none⟩ = some (U Z rb.f0.f0)∧Wg.cell? ⟨g7,1,none⟩ = some (U Z rb.f0.f1)∧Wg.cell? ⟨g7,2,none⟩ = some (U Z rb.f1.f0)∧Wg.cell? ⟨g7,3,none⟩ = some (U Z rb.f1.f1)∧Wg.cell? ⟨g9,0,none⟩ = some (U Z hd)∧Wg.cell? ⟨g9,1,none⟩ = some (U Z layer)∧Wg.cell? ⟨b,10,none⟩ = some (U Z v.dive)):=⟨((af m7 0).trans rfl),((af m7 1).trans rfl),((af m7 2).trans rfl),((af m7 3).trans rfl),((af m9 0).trans rfl),((af m9 1).trans rfl),((af mT 10).trans rfl)⟩
 refine eY (a':=?_) ?_ ?_
 rotate_left
 ·simp only [Dz,Act.put,List.setIfInBounds_toArray,List.set_cons_zero,List.set_cons_succ]
  rfl
 refine Kg (i:=14) (N:=none) #[ab,ab,ab,ab,ab,ab,ab,ab,ab,ab,ab,ab,ab,ab,ab] rfl rfl aY (by decide) (fun K hK=>?_)
 have K7:=bn m12 0
 have K8:=(af m12 0).trans rfl
 have PH:=bn m12 1
 have PI:=(af m12 1).trans rfl
 have Xz:=bn m12 2
 have XA:=(af m12 2).trans rfl
 have XB:=bn m12 3
 have XC:=(af m12 3).trans rfl
 refine zD (w1:=?_) (by rfl) rfl ?_ ?_
 rotate_left
 ·go_simp
  rfl
 clear K7 K8 PH PI Xz XA XB XC
 replace mT:eT (Wg.setCell ⟨g12,0,none⟩ (U Z y.f0.f0)) b #[U Z se.nx,U Z se.ny,U Z se.cell,U Z se.slot,U Z se.slots,U Z se.layers,U Z se.most,.slice A7 se.shores.length c7,.slice A8 se.currents.length c8,U Z v.speed,U Z v.dive,U Z v.use.f0,U Z v.use.f1,U Z v.drift.f0,U Z v.drift.f1,U Z v.reserve] 110:=aj (p:=⟨g12,0,none⟩) mT uY _
 replace m6:eT (Wg.setCell ⟨g12,0,none⟩ (U Z y.f0.f0)) g6 #[U Z x.f0.f0,U Z x.f0.f1,U Z x.f1.f0,U Z x.f1.f1] 31:=aj (p:=⟨g12,0,none⟩) m6 oU _
 replace m7:eT (Wg.setCell ⟨g12,0,none⟩ (U Z y.f0.f0)) g7 #[U Z rb.f0.f0,U Z rb.f0.f1,U Z rb.f1.f0,U Z rb.f1.f1] 31:=aj (p:=⟨g12,0,none⟩) m7 Cg _
 replace m9:eT (Wg.setCell ⟨g12,0,none⟩ (U Z y.f0.f0)) g9 #[U Z hd,U Z layer] 33:=aj (p:=⟨g12,0,none⟩) m9 Ch _
 replace m10:eT (Wg.setCell ⟨g12,0,none⟩ (U Z y.f0.f0)) g10 #[U Z 0,U Z 0,U Z 0,U Z 0] 31:=aj (p:=⟨g12,0,none⟩) m10 kQ _
 replace m11:eT (Wg.setCell ⟨g12,0,none⟩ (U Z y.f0.f0)) g11 #[U Z d0,U Z d1] 161:=aj (p:=⟨g12,0,none⟩) m11 zF _
 replace m12:eT (Wg.setCell ⟨g12,0,none⟩ (U Z y.f0.f0)) g12 #[U Z y.f0.f0,U Z 0,U Z 0,U Z 0] 31:=aI m12 0 _ rfl
 replace mB:Below w.heap.size w (Wg.setCell ⟨g12,0,none⟩ (U Z y.f0.f0)):=mB.setCell (p:=⟨g12,0,none⟩) Nw _
 replace mT:eT ((Wg.setCell ⟨g12,0,none⟩ (U Z y.f0.f0)).setCell ⟨g12,1,none⟩ (U Z y.f0.f1)) b #[U Z se.nx,U Z se.ny,U Z se.cell,U Z se.slot,U Z se.slots,U Z se.layers,U Z se.most,.slice A7 se.shores.length c7,.slice A8 se.currents.length c8,U Z v.speed,U Z v.dive,U Z v.use.f0,U Z v.use.f1,U Z v.drift.f0,U Z v.drift.f1,U Z v.reserve] 110:=aj (p:=⟨g12,1,none⟩) mT uY _
 replace m6:eT ((Wg.setCell ⟨g12,0,none⟩ (U Z y.f0.f0)).setCell ⟨g12,1,none⟩ (U Z y.f0.f1)) g6 #[U Z x.f0.f0,U Z x.f0.f1,U Z x.f1.f0,U Z x.f1.f1] 31:=aj (p:=⟨g12,1,none⟩) m6 oU _
 replace m7:eT ((Wg.setCell ⟨g12,0,none⟩ (U Z y.f0.f0)).setCell ⟨g12,1,none⟩ (U Z y.f0.f1)) g7 #[U Z rb.f0.f0,U Z rb.f0.f1,U Z rb.f1.f0,U Z rb.f1.f1] 31:=aj (p:=⟨g12,1,none⟩) m7 Cg _
 replace m9:eT ((Wg.setCell ⟨g12,0,none⟩ (U Z y.f0.f0)).setCell ⟨g12,1,none⟩ (U Z y.f0.f1)) g9 #[U Z hd,U Z layer] 33:=aj (p:=⟨g12,1,none⟩) m9 Ch _
 replace m10:eT ((Wg.setCell ⟨g12,0,none⟩ (U Z y.f0.f0)).setCell ⟨g12,1,none⟩ (U Z y.f0.f1)) g10 #[U Z 0,U Z 0,U Z 0,U Z 0] 31:=aj (p:=⟨g12,1,none⟩) m10 kQ _
 replace m11:eT ((Wg.setCell ⟨g12,0,none⟩ (U Z y.f0.f0)).setCell ⟨g12,1,none⟩ (U Z y.f0.f1)) g11 #[U Z d0,U Z d1] 161:=aj (p:=⟨g12,1,none⟩) m11 zF _
 replace m12:eT ((Wg.setCell ⟨g12,0,none⟩ (U Z y.f0.f0)).setCell ⟨g12,1,none⟩ (U Z y.f0.f1)) g12 #[U Z y.f0.f0,U Z y.f0.f1,U Z 0,U Z 0] 31:=aI m12 1 _ rfl
 replace mB:Below w.heap.size w ((Wg.setCell ⟨g12,0,none⟩ (U Z y.f0.f0)).setCell ⟨g12,1,none⟩ (U Z y.f0.f1)):=mB.setCell (p:=⟨g12,1,none⟩) Nw _
 replace mT:eT (((Wg.setCell ⟨g12,0,none⟩ (U Z y.f0.f0)).setCell ⟨g12,1,none⟩ (U Z y.f0.f1)).setCell ⟨g12,2,none⟩ (U Z y.f1.f0)) b #[U Z se.nx,U Z se.ny,U Z se.cell,U Z se.slot,U Z se.slots,U Z se.layers,U Z se.most,.slice A7 se.shores.length c7,.slice A8 se.currents.length c8,U Z v.speed,U Z v.dive,U Z v.use.f0,U Z v.use.f1,U Z v.drift.f0,U Z v.drift.f1,U Z v.reserve] 110:=aj (p:=⟨g12,2,none⟩) mT uY _
 replace m6:eT (((Wg.setCell ⟨g12,0,none⟩ (U Z y.f0.f0)).setCell ⟨g12,1,none⟩ (U Z y.f0.f1)).setCell ⟨g12,2,none⟩ (U Z y.f1.f0)) g6 #[U Z x.f0.f0,U Z x.f0.f1,U Z x.f1.f0,U Z x.f1.f1] 31:=aj (p:=⟨g12,2,none⟩) m6 oU _
 replace m7:eT (((Wg.setCell ⟨g12,0,none⟩ (U Z y.f0.f0)).setCell ⟨g12,1,none⟩ (U Z y.f0.f1)).setCell ⟨g12,2,none⟩ (U Z y.f1.f0)) g7 #[U Z rb.f0.f0,U Z rb.f0.f1,U Z rb.f1.f0,U Z rb.f1.f1] 31:=aj (p:=⟨g12,2,none⟩) m7 Cg _
 replace m9:eT (((Wg.setCell ⟨g12,0,none⟩ (U Z y.f0.f0)).setCell ⟨g12,1,none⟩ (U Z y.f0.f1)).setCell ⟨g12,2,none⟩ (U Z y.f1.f0)) g9 #[U Z hd,U Z layer] 33:=aj (p:=⟨g12,2,none⟩) m9 Ch _
 replace m10:eT (((Wg.setCell ⟨g12,0,none⟩ (U Z y.f0.f0)).setCell ⟨g12,1,none⟩ (U Z y.f0.f1)).setCell ⟨g12,2,none⟩ (U Z y.f1.f0)) g10 #[U Z 0,U Z 0,U Z 0,U Z 0] 31:=aj (p:=⟨g12,2,none⟩) m10 kQ _
 replace m11:eT (((Wg.setCell ⟨g12,0,none⟩ (U Z y.f0.f0)).setCell ⟨g12,1,none⟩ (U Z y.f0.f1)).setCell ⟨g12,2,none⟩ (U Z y.f1.f0)) g11 #[U Z d0,U Z d1] 161:=aj (p:=⟨g12,2,none⟩) m11 zF _
 replace m12:eT (((Wg.setCell ⟨g12,0,none⟩ (U Z y.f0.f0)).setCell ⟨g12,1,none⟩ (U Z y.f0.f1)).setCell ⟨g12,2,none⟩ (U Z y.f1.f0)) g12 #[U Z y.f0.f0,U Z y.f0.f1,U Z y.f1.f0,U Z 0] 31:=aI m12 2 _ rfl
 replace mB:Below w.heap.size w (((Wg.setCell ⟨g12,0,none⟩ (U Z y.f0.f0)).setCell ⟨g12,1,none⟩ (U Z y.f0.f1)).setCell ⟨g12,2,none⟩ (U Z y.f1.f0)):=mB.setCell (p:=⟨g12,2,none⟩) Nw _
 replace mT:eT ((((Wg.setCell ⟨g12,0,none⟩ (U Z y.f0.f0)).setCell ⟨g12,1,none⟩ (U Z y.f0.f1)).setCell ⟨g12,2,none⟩ (U Z y.f1.f0)).setCell ⟨g12,3,none⟩ (U Z y.f1.f1)) b #[U Z se.nx,U Z se.ny,U Z se.cell,U Z se.slot,U Z se.slots,U Z se.layers,U Z se.most,.slice A7 se.shores.length c7,.slice A8 se.currents.length c8,U Z v.speed,U Z v.dive,U Z v.use.f0,U Z v.use.f1,U Z v.drift.f0,U Z v.drift.f1,U Z v.reserve] 110:=aj (p:=⟨g12,3,none⟩) mT uY _
 replace m6:eT ((((Wg.setCell ⟨g12,0,none⟩ (U Z y.f0.f0)).setCell ⟨g12,1,none⟩ (U Z y.f0.f1)).setCell ⟨g12,2,none⟩ (U Z y.f1.f0)).setCell ⟨g12,3,none⟩ (U Z y.f1.f1)) g6 #[U Z x.f0.f0,U Z x.f0.f1,U Z x.f1.f0,U Z x.f1.f1] 31:=aj (p:=⟨g12,3,none⟩) m6 oU _
 replace m7:eT ((((Wg.setCell ⟨g12,0,none⟩ (U Z y.f0.f0)).setCell ⟨g12,1,none⟩ (U Z y.f0.f1)).setCell ⟨g12,2,none⟩ (U Z y.f1.f0)).setCell ⟨g12,3,none⟩ (U Z y.f1.f1)) g7 #[U Z rb.f0.f0,U Z rb.f0.f1,U Z rb.f1.f0,U Z rb.f1.f1] 31:=aj (p:=⟨g12,3,none⟩) m7 Cg _
 replace m9:eT ((((Wg.setCell ⟨g12,0,none⟩ (U Z y.f0.f0)).setCell ⟨g12,1,none⟩ (U Z y.f0.f1)).setCell ⟨g12,2,none⟩ (U Z y.f1.f0)).setCell ⟨g12,3,none⟩ (U Z y.f1.f1)) g9 #[U Z hd,U Z layer] 33:=aj (p:=⟨g12,3,none⟩) m9 Ch _
 replace m10:eT ((((Wg.setCell ⟨g12,0,none⟩ (U Z y.f0.f0)).setCell ⟨g12,1,none⟩ (U Z y.f0.f1)).setCell ⟨g12,2,none⟩ (U Z y.f1.f0)).setCell ⟨g12,3,none⟩ (U Z y.f1.f1)) g10 #[U Z 0,U Z 0,U Z 0,U Z 0] 31:=aj (p:=⟨g12,3,none⟩) m10 kQ _
 replace m11:eT ((((Wg.setCell ⟨g12,0,none⟩ (U Z y.f0.f0)).setCell ⟨g12,1,none⟩ (U Z y.f0.f1)).setCell ⟨g12,2,none⟩ (U Z y.f1.f0)).setCell ⟨g12,3,none⟩ (U Z y.f1.f1)) g11 #[U Z d0,U Z d1] 161:=aj (p:=⟨g12,3,none⟩) m11 zF _
 replace m12:eT ((((Wg.setCell ⟨g12,0,none⟩ (U Z y.f0.f0)).setCell ⟨g12,1,none⟩ (U Z y.f0.f1)).setCell ⟨g12,2,none⟩ (U Z y.f1.f0)).setCell ⟨g12,3,none⟩ (U Z y.f1.f1)) g12 #[U Z y.f0.f0,U Z y.f0.f1,U Z y.f1.f0,U Z y.f1.f1] 31:=aI m12 3 _ rfl
 replace mB:Below w.heap.size w ((((Wg.setCell ⟨g12,0,none⟩ (U Z y.f0.f0)).setCell ⟨g12,1,none⟩ (U Z y.f0.f1)).setCell ⟨g12,2,none⟩ (U Z y.f1.f0)).setCell ⟨g12,3,none⟩ (U Z y.f1.f1)):=mB.setCell (p:=⟨g12,3,none⟩) Nw _
 refine hK.out _ _ ?_
 clear hK K
 refine lI aY ?_
 try clear hHeld
 generalize qL:((((Wg.setCell ⟨g12,0,none⟩ (U Z y.f0.f0)).setCell ⟨g12,1,none⟩ (U Z y.f0.f1)).setCell ⟨g12,2,none⟩ (U Z y.f1.f0)).setCell ⟨g12,3,none⟩ (U Z y.f1.f1)) = W3 at mT m6 m7 m9 m10 m11 m12 mB ⊢
 clear qL
 have Ha:w.heap.size≤W3.heap.size:=mB.size
 go_wp2_with fail
 replace mT:=ag mT
 replace m6:=ag m6
 replace m7:=ag m7
 replace m9:=ag m9
 replace m10:=ag m10
 replace m11:=ag m11
 replace m12:=ag m12
 replace mB:=bU mB
 refine jT (n:=30) (S:=fun w'=>w'.cell? ⟨g6,0,none⟩ = some (U Z x.f0.f0)∧w'.cell? ⟨g6,1,none⟩ = some (U Z x.f0.f1)∧w'.cell? ⟨g6,2,none⟩ = some (U Z x.f1.f0)∧w'.cell? ⟨g6,3,none⟩ = some (U Z x.f1.f1)∧w'.cell? ⟨g11,0,none⟩ = some (U Z d0)∧w'.cell? ⟨g11,1,none⟩ = some (U Z d1)∧w'.cell? ⟨g12,0,none⟩ = some (U Z y.f0.f0)∧w'.cell? ⟨g12,1,none⟩ = some (U Z y.f0.f1)∧w'.cell? ⟨g12,2,none⟩ = some (U Z y.f1.f0)∧w'.cell? ⟨g12,3,none⟩ = some (U Z y.f1.f1)∧w'.cell? ⟨b,9,none⟩ = some (U Z v.speed)) (ds:=[29]) #[ac,ac,ac,ac,ac,ac,ac,ac,ac,ac,ac,ac,ac,ac,ac,ac,ac,ac,ac,ac,ac,ac,ac,ac,ac,ac,ac,ac,ac,ac] aY rfl rfl ⟨((af m6 0).trans rfl),((af m6 1).trans rfl),((af m6 2).trans rfl),((af m6 3).trans rfl),((af m11 0).trans rfl),((af m11 1).trans rfl),((af m12 0).trans rfl),((af m12 1).trans rfl),((af m12 2).trans rfl),((af m12 3).trans rfl),((af mT 9).trans rfl)⟩ (fun hHeld=>?_)
 generalize hWd:World.drew _ = Wx at mT m6 m7 m9 m10 m11 m12 mB hHeld ⊢
 clear hWd
 refine dW (i:=0) (N:=some 30) aY ?_
 refine dW (i:=1) (N:=some 31) aY ?_
 refine dW (i:=3) (N:=some 33) aY ?_
 refine dW (i:=5) (N:=some 35) aY ?_
 refine dW (i:=6) (N:=some 36) aY ?_
 refine dW (i:=7) (N:=some 37) aY ?_
 refine dW (i:=8) (N:=some 38) aY ?_
 refine dW (i:=11) (N:=some 41) aY ?_
 refine dW (i:=14) (N:=some 44) aY ?_
 refine dW (i:=15) (N:=some 45) aY ?_
 refine dW (i:=17) (N:=some 47) aY ?_
 refine dW (i:=19) (N:=some 49) aY ?_
 refine dW (i:=20) (N:=some 50) aY ?_
 refine dW (i:=21) (N:=some 51) aY ?_
 refine dW (i:=22) (N:=some 52) aY ?_
 refine dW (i:=25) (N:=some 55) aY ?_
 refine ja (i:=2) (N:=some 32) aY hHeld ?_
 refine ja (i:=4) (N:=some 34) aY hHeld ?_
 refine ja (i:=9) (N:=some 39) aY hHeld ?_
 refine dW (i:=10) (N:=some 40) aY ?_
 refine ja (i:=12) (N:=some 42) aY hHeld ?_
 refine ja (i:=16) (N:=some 46) aY hHeld ?_
 refine ja (i:=18) (N:=some 48) aY hHeld ?_
 refine ja (i:=23) (N:=some 53) aY hHeld ?_
 refine dW (i:=24) (N:=some 54) aY ?_
 refine ja (i:=26) (N:=some 56) aY hHeld ?_
 refine jJ (i:=13) (N:=some 43) #[ab,ab,ab,ab,ab,ab,ab,ab,ab,ab,ab,ab,ab,ab,ab,ab,ab,ab,ab,ab,ab,ab,ab,ab,ab,ab,ab,ac,ac,ac] rfl rfl aY (by decide) (fun K hK=>?_)
 have kF:=kS0 _ w2 Wx (hT.below mB)
 refine gQ Try.func131 aY rfl #[.pointer (some ⟨b,0,none⟩),.agg #[U Z x.f0.f0,U Z x.f0.f1],U Z (wrap64 (d0*v.speed)),.agg #[U Z y.f0.f0,U Z y.f0.f1]] (by rfl) rfl rfl PK ?_
 with_reducible refine (kF).mono ?_
 rintro e TA ⟨rfl,hb⟩
 refine ⟨_,rfl,?_⟩
 clear kF
 replace mT:=av mT hb
 replace m6:=av m6 hb
 replace m7:=av m7 hb
 replace m9:=av m9 hb
 replace m10:=av m10 hb
 replace m11:=av m11 hb
 replace m12:=av m12 hb
 replace mB:=bO mB hb
 clear hb
 refine hK.out _ _ ⟨((af m6 0).trans rfl),((af m6 1).trans rfl),((af m6 2).trans rfl),((af m6 3).trans rfl),((af m11 0).trans rfl),((af m11 1).trans rfl),((af m12 0).trans rfl),((af m12 1).trans rfl),((af m12 2).trans rfl),((af m12 3).trans rfl),((af mT 9).trans rfl)⟩ (fun hHeld=>?_)
 clear hK K
 refine eY auK ?_
 refine jJ (i:=27) (N:=some 57) #[ab,ab,ab,ab,ab,ab,ab,ab,ab,ab,ab,ab,ab,ab,ab,ab,ab,ab,ab,ab,ab,ab,ab,ab,ab,ab,ab,ab,ac,ac] rfl rfl aY (by decide) (fun K hK=>?_)
 have kF:=kS1 _ w3 TA (hT.below mB)
 refine gQ Try.func131 aY rfl #[.pointer (some ⟨b,0,none⟩),.agg #[U Z x.f1.f0,U Z x.f1.f1],U Z (wrap64 (d1*v.speed)),.agg #[U Z y.f1.f0,U Z y.f1.f1]] (by rfl) rfl rfl PK ?_
 with_reducible refine (kF).mono ?_
 rintro e w27 ⟨rfl,hb⟩
 refine ⟨_,rfl,?_⟩
 clear kF
 replace mT:=av mT hb
 replace m6:=av m6 hb
 replace m7:=av m7 hb
 replace m9:=av m9 hb
 replace m10:=av m10 hb
 replace m11:=av m11 hb
 replace m12:=av m12 hb
 replace mB:=bO mB hb
 clear hb
 refine hK.out _ _ ⟨((af m6 0).trans rfl),((af m6 1).trans rfl),((af m6 2).trans rfl),((af m6 3).trans rfl),((af m11 0).trans rfl),((af m11 1).trans rfl),((af m12 0).trans rfl),((af m12 1).trans rfl),((af m12 2).trans rfl),((af m12 3).trans rfl),((af mT 9).trans rfl)⟩ (fun hHeld=>?_)
 clear hK K
 refine eY (by show Act.put _ (some 57) _ = _;simp only [Act.put,List.setIfInBounds_toArray,List.set_cons_zero,List.set_cons_succ,eB,eH];rfl) ?_
 refine dW (i:=28) (N:=some 58) aY ?_
 refine Kg (i:=29) (N:=none) #[ab,ab,ab,ab,ab,ab,ab,ab,ab,ab,ab,ab,ab,ab,ab,ab,ab,ab,ab,ab,ab,ab,ab,ab,ab,ab,ab,ab,ab,ab] rfl rfl aY (by decide) (fun K hK=>?_)
 have K7:=bn m10 0
 have PH:=bn m10 1
 have Xz:=bn m10 2
 have XB:=bn m10 3
 have K8:=(af m10 0).trans rfl
 have PI:=(af m10 1).trans rfl
 have XA:=(af m10 2).trans rfl
 have XC:=(af m10 3).trans rfl
 refine zD (w1:=?_) (by rfl) rfl ?_ ?_
 rotate_left
 ·go_simp
  rfl
 refine hK.out _ _ ?_
 clear hK K
 refine lI aY ?_
 go_wp2
 exact bodyPost_ret (results_cell_row rfl _ _ g10 31 #[U Z (oZ v.dive x.f0 (d0*v.speed) y.f0).f0,U Z (oZ v.dive x.f0 (d0*v.speed) y.f0).f1,U Z (oZ v.dive x.f1 (d1*v.speed) y.f1).f0,U Z (oZ v.dive x.f1 (d1*v.speed) y.f1).f1] (0,0) _ rfl (aI (aI (aI (aI m10 0 (U Z (oZ v.dive x.f0 (d0*v.speed) y.f0).f0) rfl) 1 (U Z (oZ v.dive x.f0 (d0*v.speed) y.f0).f1) rfl) 2 (U Z (oZ v.dive x.f1 (d1*v.speed) y.f1).f0) rfl) 3 (U Z (oZ v.dive x.f1 (d1*v.speed) y.f1).f1) rfl) Try.underlying31 rfl aY) rfl ⟨by rw [HR.out],(Below.setCell (p:=⟨g10,3,none⟩) (Below.setCell (p:=⟨g10,2,none⟩) (Below.setCell (p:=⟨g10,1,none⟩) (Below.setCell (p:=⟨g10,0,none⟩) mB pz _) pz _) pz _) pz _)⟩
end Go.Proofs.Ytmhaiihjfgfaoaa.Gl
end
