import Derived.Test.YtmhaiihjfgfaoaaGfGliderFetch3
import Derived.Test.YtmhaiihjfgfaoaaGfGliderFetch10
import Derived.Test.YtmhaiihjfgfaoaaGfGliderFetch13
set_option linter.unusedVariables false
set_option linter.unusedSimpArgs false
open Go.Value renaming int → U
open Go.IntKind renaming i64 → Z
open Bool renaming true → ab, false → ac
section
namespace Go.Proofs.Ytmhaiihjfgfaoaa.Gl
open Go.RowKit Go.Shelf Go.Proofs.YtmhaiihjfgfaoaaW.PrintWords Go.Proofs.YtmhaiihjfgfaoaaW.PrintLast Go.Proofs.YtmhaiihjfgfaoaaW.PrintMore Go.Proofs.Ytmhaiihjfgfaoaa.Pr Go.Proofs.YtmhaiihjfgfaoaaW.Round
set_option linter.unusedVariables false
set_option linter.unusedSimpArgs false
attribute [local go_sem] gp gq iA iB gu
def Cb (h:Int):Int × Int:=if h = 0 then (0,1000) else if h = 1 then (707,707) else if h = 2 then (1000,0) else if h = 3 then (707,-707) else if h = 4 then (0,-1000) else if h = 5 then (-707,-707) else if h = 6 then (-1000,0) else if h = 7 then (-707,707) else if h = 8 then (0,0) else (0,0)
theorem Rm (h:Int):(-1000≤(Cb h).1∧(Cb h).1≤1000)∧(-1000≤(Cb h).2∧(Cb h).2≤1000):=by
 unfold Cb
 repeat' split
 all_goals decide
set_option maxRecDepth 100000 in
set_option maxHeartbeats 2000000 in
theorem aa0 (w:World):Calls Try.prog 130 #[] w (zn (.agg #[U Z 0,U Z 1000,U Z 707,U Z 707,U Z 1000,U Z 0,U Z 707,U Z (-707),U Z 0,U Z (-1000),U Z (-707),U Z (-707),U Z (-1000),U Z 0,U Z (-707),U Z 707,U Z 0,U Z 0]) w):=by
 have aBC:=Try.underlying162
 have aBD:=Try.underlying161
 go_enter Try.func130,Try.ntmps130
 go_wp2
 exact bodyPost_ret (results_cell_row rfl _ _ w.heap.size 162 #[U Z 0,U Z 1000,U Z 707,U Z 707,U Z 1000,U Z 0,U Z 707,U Z (-707),U Z 0,U Z (-1000),U Z (-707),U Z (-707),U Z (-1000),U Z 0,U Z (-707),U Z 707,U Z 0,U Z 0] (0,0) _ rfl (gT w _) Try.underlying162 rfl aM) rfl ⟨rfl,bA (Below.refl _ w) _⟩
def Dp (s:oJ) (v:tF) (x rb:jf) (t heading layer:Int):jf:=⟨pM v.dive x.f0 ((Cb heading).1*v.speed) (Q5 s rb layer t (t+v.dive)).f0,pM v.dive x.f1 ((Cb heading).2*v.speed) (Q5 s rb layer t (t+v.dive)).f1⟩
set_option maxRecDepth 100000 in
set_option maxHeartbeats 8000000 in
theorem al8 (b:Nat) (se:oJ) (v:tF) (x rb:jf) (t hd layer:Int) (w:World) (hT:nX w b se v) (hS:BX se) (hV:Fy v) (hcu:(se.currents.length:Int) = se.slots*se.layers*(se.nx*se.ny)) (hcb:ayv se) (hx:Jh x) (hr:VK se rb) (ht0:0≤t) (ht2:t+v.dive≤se.slots*se.slot) (hh0:0≤hd) (hh1:hd≤8) (hl0:0≤layer) (hl1:layer < se.layers):
 Calls Try.prog 101 #[.pointer (some ⟨b,0,none⟩),.agg #[U Z x.f0.f0,U Z x.f0.f1,U Z x.f1.f0,U Z x.f1.f1],.agg #[U Z rb.f0.f0,U Z rb.f0.f1,U Z rb.f1.f0,U Z rb.f1.f1],U Z t,.agg #[U Z hd,U Z layer]] w (zn (.agg #[U Z (Dp se v x rb t hd layer).f0.f0,U Z (Dp se v x rb t hd layer).f0.f1,U Z (Dp se v x rb t hd layer).f1.f0,U Z (Dp se v x rb t hd layer).f1.f1]) w):=by
 have rO:=Try.underlying31
 have pz:=Try.underlying27
 have aBD:=Try.underlying161
 have aBC:=Try.underlying162
 have MV:=Try.underlying33
 have hdv:=hV.dive
 have hsp:=hV.speed
 have hss:=iI (show 0≤se.slots by have:=hS.slots;omega) hS.slots.2 (show 0≤se.slot by have:=hS.slot;omega) hS.slot.2
 have hix:∀ W_:World,(Instr.index 162 (.agg #[U Z 0,U Z 1000,U Z 707,U Z 707,U Z 1000,U Z 0,U Z 707,U Z (-707),U Z 0,U Z (-1000),U Z (-707),U Z (-707),U Z (-1000),U Z 0,U Z (-707),U Z 707,U Z 0,U Z 0]) (U Z hd)).run Try.prog W_ = .ok (.agg #[U Z (Cb hd).1,U Z (Cb hd).2]) W_:=by
  have h9:hd = 0∨hd = 1∨hd = 2∨hd = 3∨hd = 4∨hd = 5∨hd = 6∨hd = 7∨hd = 8:=by omega
  rcases h9 with rfl|rfl|rfl|rfl|rfl|rfl|rfl|rfl|rfl <;> exact fun W_=>by kernel_rfl
 have hdi:=Rm hd
 have hai:=al3 hcb rb layer t (t+v.dive)
 have kA:=fun u_ (hu_:u_ = t+v.dive) W (h:nX W b se v)=>aym b se v rb layer t u_ W h hS hr hcu hl0 hl1 ht0 (by omega) (by omega)
 have hyy:∀ u_,u_ = t+v.dive→Q5 se rb layer t u_ = Q5 se rb layer t (t+v.dive):=fun u_ h=>by rw [h]
 have HR:Hid (Dp se v x rb t hd layer = ⟨pM v.dive x.f0 ((Cb hd).1*v.speed) (Q5 se rb layer t (t+v.dive)).f0,pM v.dive x.f1 ((Cb hd).2*v.speed) (Q5 se rb layer t (t+v.dive)).f1⟩):=Lib.hid rfl
 have kA:=fun u_ (hu_:u_ = t+v.dive) W (h:nX W b se v)=>by have h1:=kA u_ hu_ W h;rw [hyy u_ hu_] at h1;exact h1
 clear hyy
 generalize Q5 se rb layer t (t+v.dive) = y at*
 generalize Cb hd = d at*
 obtain ⟨d0,d1⟩:=d
 dsimp only at hdi hix HR
 have m0:=qw (a:=d0) (b:=v.speed) (m:=1000) (n:=5000) hdi.1.1 hdi.1.2 hsp.1 hsp.2 (by omega)
 have m1:=qw (a:=d1) (b:=v.speed) (m:=1000) (n:=5000) hdi.2.1 hdi.2.2 hsp.1 hsp.2 (by omega)
 have kS0:=fun z_ (hz_:z_ = d0*v.speed) W (h:nX W b se v)=>VH b se v x.f0 z_ y.f0 W h hV hx.1 hx.2.1 (by omega) hai.1 hai.2.1
 have kS1:=fun z_ (hz_:z_ = d1*v.speed) W (h:nX W b se v)=>VH b se v x.f1 z_ y.f1 W h hV hx.2.2.1 hx.2.2.2 (by omega) hai.2.2.1 hai.2.2.2.1
 have hT0:=hT
 obtain ⟨A7,c7,A8,c8,mT,_⟩:=hT0
 have w1:wrap64 (t+v.dive) = t+v.dive:=by unfold wrap64;omega
 have w2:wrap64 (d0*v.speed) = d0*v.speed:=by unfold wrap64;omega
 have w3:wrap64 (d1*v.speed) = d1*v.speed:=by unfold wrap64;omega
 clear hx hr hS hV hcu hcb hai hdi hss m0 m1 hdv hsp ht0 ht2 hh0 hh1 hl0 hl1
 go_enter Try.func101,Try.ntmps101
 go_wp2_with fail
 have Jg:=eG mT
 have m6:jh ((((w.alloc (.cells #[U Z x.f0.f0,U Z x.f0.f1,U Z x.f1.f0,U Z x.f1.f1] 31)).alloc (.cells #[U Z rb.f0.f0,U Z rb.f0.f1,U Z rb.f1.f0,U Z rb.f1.f1] 31)).alloc (.cells #[U Z hd,U Z layer] 33)).alloc (.cells #[U Z 0,U Z 0,U Z 0,U Z 0] 31)) (w.heap.size) #[U Z x.f0.f0,U Z x.f0.f1,U Z x.f1.f0,U Z x.f1.f1] 31:=(af (af (af al4 _) _) _)
 have m7:jh ((((w.alloc (.cells #[U Z x.f0.f0,U Z x.f0.f1,U Z x.f1.f0,U Z x.f1.f1] 31)).alloc (.cells #[U Z rb.f0.f0,U Z rb.f0.f1,U Z rb.f1.f0,U Z rb.f1.f1] 31)).alloc (.cells #[U Z hd,U Z layer] 33)).alloc (.cells #[U Z 0,U Z 0,U Z 0,U Z 0] 31)) (w.heap.size+1) #[U Z rb.f0.f0,U Z rb.f0.f1,U Z rb.f1.f0,U Z rb.f1.f1] 31:=(af (af (by have h_:=gT (w.alloc (.cells #[U Z x.f0.f0,U Z x.f0.f1,U Z x.f1.f0,U Z x.f1.f1] 31)) (.cells #[U Z rb.f0.f0,U Z rb.f0.f1,U Z rb.f1.f0,U Z rb.f1.f1] 31);first|exact h_|(simp only [World.size_alloc] at h_;exact h_)) _) _)
 have m9:jh ((((w.alloc (.cells #[U Z x.f0.f0,U Z x.f0.f1,U Z x.f1.f0,U Z x.f1.f1] 31)).alloc (.cells #[U Z rb.f0.f0,U Z rb.f0.f1,U Z rb.f1.f0,U Z rb.f1.f1] 31)).alloc (.cells #[U Z hd,U Z layer] 33)).alloc (.cells #[U Z 0,U Z 0,U Z 0,U Z 0] 31)) (w.heap.size+1+1) #[U Z hd,U Z layer] 33:=(af (by have h_:=gT ((w.alloc (.cells #[U Z x.f0.f0,U Z x.f0.f1,U Z x.f1.f0,U Z x.f1.f1] 31)).alloc (.cells #[U Z rb.f0.f0,U Z rb.f0.f1,U Z rb.f1.f0,U Z rb.f1.f1] 31)) (.cells #[U Z hd,U Z layer] 33);first|exact h_|(simp only [World.size_alloc] at h_;exact h_)) _)
 have m10:jh ((((w.alloc (.cells #[U Z x.f0.f0,U Z x.f0.f1,U Z x.f1.f0,U Z x.f1.f1] 31)).alloc (.cells #[U Z rb.f0.f0,U Z rb.f0.f1,U Z rb.f1.f0,U Z rb.f1.f1] 31)).alloc (.cells #[U Z hd,U Z layer] 33)).alloc (.cells #[U Z 0,U Z 0,U Z 0,U Z 0] 31)) (w.heap.size+1+1+1) #[U Z 0,U Z 0,U Z 0,U Z 0] 31:=(by have h_:=gT (((w.alloc (.cells #[U Z x.f0.f0,U Z x.f0.f1,U Z x.f1.f0,U Z x.f1.f1] 31)).alloc (.cells #[U Z rb.f0.f0,U Z rb.f0.f1,U Z rb.f1.f0,U Z rb.f1.f1] 31)).alloc (.cells #[U Z hd,U Z layer] 33)) (.cells #[U Z 0,U Z 0,U Z 0,U Z 0] 31);first|exact h_|(simp only [World.size_alloc] at h_;exact h_))
 replace mT:jh ((((w.alloc (.cells #[U Z x.f0.f0,U Z x.f0.f1,U Z x.f1.f0,U Z x.f1.f1] 31)).alloc (.cells #[U Z rb.f0.f0,U Z rb.f0.f1,U Z rb.f1.f0,U Z rb.f1.f1] 31)).alloc (.cells #[U Z hd,U Z layer] 33)).alloc (.cells #[U Z 0,U Z 0,U Z 0,U Z 0] 31)) b #[U Z se.nx,U Z se.ny,U Z se.cell,U Z se.slot,U Z se.slots,U Z se.layers,U Z se.most,.slice A7 se.shores.length c7,.slice A8 se.currents.length c8,U Z v.speed,U Z v.dive,U Z v.use.f0,U Z v.use.f1,U Z v.drift.f0,U Z v.drift.f1,U Z v.reserve] 110:=(af (af (af (af mT _) _) _) _)
 have mB:Below w.heap.size w ((((w.alloc (.cells #[U Z x.f0.f0,U Z x.f0.f1,U Z x.f1.f0,U Z x.f1.f1] 31)).alloc (.cells #[U Z rb.f0.f0,U Z rb.f0.f1,U Z rb.f1.f0,U Z rb.f1.f1] 31)).alloc (.cells #[U Z hd,U Z layer] 33)).alloc (.cells #[U Z 0,U Z 0,U Z 0,U Z 0] 31)):=(bA (bA (bA (bA (Below.refl w.heap.size w) _) _) _) _)
 have oI:w.heap.size≤w.heap.size:=Nat.le_refl _
 generalize yX:((((w.alloc (.cells #[U Z x.f0.f0,U Z x.f0.f1,U Z x.f1.f0,U Z x.f1.f1] 31)).alloc (.cells #[U Z rb.f0.f0,U Z rb.f0.f1,U Z rb.f1.f0,U Z rb.f1.f1] 31)).alloc (.cells #[U Z hd,U Z layer] 33)).alloc (.cells #[U Z 0,U Z 0,U Z 0,U Z 0] 31)) = W1 at mT m6 m7 m9 m10 mB ⊢
 clear yX
 generalize hg6:w.heap.size = g6 at m6 m7 m9 m10 ⊢
 have Pf:b≠g6:=by omega
 have adP:g6≠b:=Pf.symm
 have hG6:w.heap.size≤g6:=by omega
 generalize hg7:g6+1 = g7 at m7 m9 m10 ⊢
 have adJ:b≠g7:=by omega
 have adY:g6≠g7:=by omega
 have ax8:g7≠b:=adJ.symm
 have ayA:g7≠g6:=adY.symm
 have hG7:w.heap.size≤g7:=by omega
 generalize hg9:g7+1 = g9 at m9 m10 ⊢
 have TJ:b≠g9:=by omega
 have TV:g6≠g9:=by omega
 have L9:g7≠g9:=by omega
 have alG:g9≠b:=TJ.symm
 have al6:g9≠g6:=TV.symm
 have adN:g9≠g7:=L9.symm
 have hG9:w.heap.size≤g9:=by omega
 generalize adR:g9+1 = g10 at m10 ⊢
 have Rl:b≠g10:=by omega
 have pV:g6≠g10:=by omega
 have MW:g7≠g10:=by omega
 have W9:g9≠g10:=by omega
 have afk:g10≠b:=Rl.symm
 have WV:g10≠g6:=pV.symm
 have afv:g10≠g7:=MW.symm
 have aqi:g10≠g9:=W9.symm
 have rA:w.heap.size≤g10:=by omega
 clear oI Jg
 try clear adR
 try clear hg9
 try clear hg7
 try clear hg6
 have DR:w.heap.size≤W1.heap.size:=mB.size
 replace mT:=ag mT
 replace m6:=ag m6
 replace m7:=ag m7
 replace m9:=ag m9
 replace m10:=ag m10
 replace mB:=bO mB
 refine iN (n:=6) (S:=fun w'=>w'.cell? ⟨g9,0,none⟩ = some (U Z hd)∧w'.cell? ⟨g9,1,none⟩ = some (U Z layer)) (ds:=[5]) #[ac,ac,ac,ac,ac,ac] aM rfl rfl ⟨((ah m9 0).trans rfl),((ah m9 1).trans rfl)⟩ (fun hHeld=>?_)
 generalize hWd:World.drew _ = Wx at mT m6 m7 m9 m10 mB hHeld ⊢
 clear hWd
 refine bV (i:=1) (N:=some 14) aM ?_
 refine iL (i:=2) (N:=some 15) aM hHeld ?_
 refine QE (σ:=Nat) 1 #[ab,ab,ab,ab,ab,ac] (fun s=>[(13,.agg #[U Z 0,U Z 1000,U Z 707,U Z 707,U Z 1000,U Z 0,U Z 707,U Z (-707),U Z 0,U Z (-1000),U Z (-707),U Z (-707),U Z (-1000),U Z 0,U Z (-707),U Z 707,U Z 0,U Z 0]),(16,.agg #[U Z d0,U Z d1]),(11,.pointer (some ⟨s,0,none⟩))]) (fun s w'=>jh w' b #[U Z se.nx,U Z se.ny,U Z se.cell,U Z se.slot,U Z se.slots,U Z se.layers,U Z se.most,.slice A7 se.shores.length c7,.slice A8 se.currents.length c8,U Z v.speed,U Z v.dive,U Z v.use.f0,U Z v.use.f1,U Z v.drift.f0,U Z v.drift.f1,U Z v.reserve] 110∧jh w' g6 #[U Z x.f0.f0,U Z x.f0.f1,U Z x.f1.f0,U Z x.f1.f1] 31∧jh w' g7 #[U Z rb.f0.f0,U Z rb.f0.f1,U Z rb.f1.f0,U Z rb.f1.f1] 31∧jh w' g9 #[U Z hd,U Z layer] 33∧jh w' g10 #[U Z 0,U Z 0,U Z 0,U Z 0] 31∧jh w' (s) #[U Z 0,U Z 0] 161∧Below w.heap.size w w'∧w.heap.size≤s∧b≠s∧g6≠s∧g7≠s∧g9≠s∧g10≠s) ?_ ?_
 rotate_left
 ·intro hCont
  refine U9 (i:=0) (j:=4) (Ni:=some 13) (Nj:=some 11) #[ab,ab,ab,ac,ac,ac] #[ac,ab,ab,ac,ab,ac] rfl rfl rfl rfl aM (by decide) (by decide) (fun K hK=>?_) (fun K hK=>?_)
  ·skip
   have pR:=aa0 (Wx)
   refine gJ Try.func130 aM rfl #[] (by rfl) rfl rfl (by simp only [List.map_toArray,List.map_cons,List.map_nil]) ?_
   with_reducible refine (pR).mono ?_
   rintro e w0 ⟨rfl,hb⟩
   refine ⟨_,rfl,?_⟩
   clear pR
   replace mT:=aU mT hb
   replace m6:=aU m6 hb
   replace m7:=aU m7 hb
   replace m9:=aU m9 hb
   replace m10:=aU m10 hb
   replace mB:=dY mB hb
   clear hb
   refine hK.out _ _ ⟨((ah m9 0).trans rfl),((ah m9 1).trans rfl)⟩ (fun hHeld=>?_)
   clear hK K
   refine dM adZ ?_
   refine iL (i:=3) (N:=some 16) aM hHeld ?_
   refine iO (i:=4) (N:=some 11) #[ab,ab,ab,ab,ab,ac] rfl rfl aM (by decide) (fun K hK=>?_)
   have JJ:b≠w0.heap.size:=by have h_:=eG mT;omega
   have JK:g6≠w0.heap.size:=by have h_:=eG m6;omega
   have DX:g7≠w0.heap.size:=by have h_:=eG m7;omega
   have DY:g9≠w0.heap.size:=by have h_:=eG m9;omega
   have FC:g10≠w0.heap.size:=by have h_:=eG m10;omega
   have aa2:w.heap.size≤w0.heap.size:=by have h_:=mB.size;omega
   replace mT:=af mT (.cells #[U Z 0,U Z 0] 161)
   replace m6:=af m6 (.cells #[U Z 0,U Z 0] 161)
   replace m7:=af m7 (.cells #[U Z 0,U Z 0] 161)
   replace m9:=af m9 (.cells #[U Z 0,U Z 0] 161)
   replace m10:=af m10 (.cells #[U Z 0,U Z 0] 161)
   have m11:jh (w0.alloc (.cells #[U Z 0,U Z 0] 161)) (w0.heap.size) #[U Z 0,U Z 0] 161:=by have h_:=gT w0 (.cells #[U Z 0,U Z 0] 161);first|exact h_|(simp only [World.size_alloc] at h_;exact h_)
   replace mB:=bA mB (.cells #[U Z 0,U Z 0] 161)
   refine L8 (w1:=?_) (v:=?_) (by rfl) rfl ?_ ?_
   rotate_left 2
   ·go_simp
    constructor
    ·rfl
    ·rfl
   refine hK.out _ _ ⟨((ah m9 0).trans rfl),((ah m9 1).trans rfl)⟩ (fun hHeld=>?_)
   clear hK K
   refine dM ajZ ?_
   exact dM aqj (hCont (w0.heap.size) _ ⟨mT,m6,m7,m9,m10,m11,mB,aa2,JJ,JK,DX,DY,FC⟩)
  ·skip
   have JJ:b≠Wx.heap.size:=by have h_:=eG mT;omega
   have JK:g6≠Wx.heap.size:=by have h_:=eG m6;omega
   have DX:g7≠Wx.heap.size:=by have h_:=eG m7;omega
   have DY:g9≠Wx.heap.size:=by have h_:=eG m9;omega
   have FC:g10≠Wx.heap.size:=by have h_:=eG m10;omega
   have aa2:w.heap.size≤Wx.heap.size:=by have h_:=mB.size;omega
   replace mT:=af mT (.cells #[U Z 0,U Z 0] 161)
   replace m6:=af m6 (.cells #[U Z 0,U Z 0] 161)
   replace m7:=af m7 (.cells #[U Z 0,U Z 0] 161)
   replace m9:=af m9 (.cells #[U Z 0,U Z 0] 161)
   replace m10:=af m10 (.cells #[U Z 0,U Z 0] 161)
   have m11:jh (Wx.alloc (.cells #[U Z 0,U Z 0] 161)) (Wx.heap.size) #[U Z 0,U Z 0] 161:=by have h_:=gT Wx (.cells #[U Z 0,U Z 0] 161);first|exact h_|(simp only [World.size_alloc] at h_;exact h_)
   replace mB:=bA mB (.cells #[U Z 0,U Z 0] 161)
   refine L8 (w1:=?_) (v:=?_) (by rfl) rfl ?_ ?_
   rotate_left 2
   ·go_simp
    constructor
    ·rfl
    ·rfl
   refine hK.out _ _ ⟨((ah m9 0).trans rfl),((ah m9 1).trans rfl)⟩ (fun hHeld=>?_)
   clear hK K
   refine dM ajZ ?_
   refine iO (i:=0) (N:=some 13) #[ab,ab,ab,ac,ab,ac] rfl rfl aM (by decide) (fun K hK=>?_)
   have pR:=aa0 ((Wx.alloc (.cells #[U Z 0,U Z 0] 161)))
   refine gJ Try.func130 aM rfl #[] (by rfl) rfl rfl (by simp only [List.map_toArray,List.map_cons,List.map_nil]) ?_
   with_reducible refine (pR).mono ?_
   rintro e w0 ⟨rfl,hb⟩
   refine ⟨_,rfl,?_⟩
   clear pR
   replace mT:=aU mT hb
   replace m6:=aU m6 hb
   replace m7:=aU m7 hb
   replace m9:=aU m9 hb
   replace m10:=aU m10 hb
   replace m11:=aU m11 hb
   replace mB:=dY mB hb
   clear hb
   refine hK.out _ _ ⟨((ah m9 0).trans rfl),((ah m9 1).trans rfl)⟩ (fun hHeld=>?_)
   clear hK K
   refine dM adZ ?_
   refine iL (i:=3) (N:=some 16) aM hHeld ?_
   exact dM aqj (hCont (Wx.heap.size) _ ⟨mT,m6,m7,m9,m10,m11,mB,aa2,JJ,JK,DX,DY,FC⟩)
 rintro g11 Wg ⟨mT,m6,m7,m9,m10,m11,mB,aa2,JJ,JK,DX,DY,FC⟩
 have hHeld:(Wg.cell? ⟨g9,0,none⟩ = some (U Z hd)∧Wg.cell? ⟨g9,1,none⟩ = some (U Z layer)):=⟨((ah m9 0).trans rfl),((ah m9 1).trans rfl)⟩
 refine dM (a':=?_) ?_ ?_
 rotate_left
 ·simp only [xC,Act.put,List.setIfInBounds_toArray,List.set_cons_zero,List.set_cons_succ]
  rfl
 refine TI (i:=5) (N:=none) #[ab,ab,ab,ab,ab,ab] rfl rfl aM (by decide) (fun K hK=>?_)
 have U5:=bf m11 0
 have Q0:=(ah m11 0).trans rfl
 have U6:=bf m11 1
 have U7:=(ah m11 1).trans rfl
 refine ve (w1:=?_) (by rfl) rfl ?_ ?_
 rotate_left
 ·go_simp
  rfl
 clear U5 Q0 U6 U7
 replace mT:jh (Wg.setCell ⟨g11,0,none⟩ (U Z d0)) b #[U Z se.nx,U Z se.ny,U Z se.cell,U Z se.slot,U Z se.slots,U Z se.layers,U Z se.most,.slice A7 se.shores.length c7,.slice A8 se.currents.length c8,U Z v.speed,U Z v.dive,U Z v.use.f0,U Z v.use.f1,U Z v.drift.f0,U Z v.drift.f1,U Z v.reserve] 110:=aV (p:=⟨g11,0,none⟩) mT JJ _
 replace m6:jh (Wg.setCell ⟨g11,0,none⟩ (U Z d0)) g6 #[U Z x.f0.f0,U Z x.f0.f1,U Z x.f1.f0,U Z x.f1.f1] 31:=aV (p:=⟨g11,0,none⟩) m6 JK _
 replace m7:jh (Wg.setCell ⟨g11,0,none⟩ (U Z d0)) g7 #[U Z rb.f0.f0,U Z rb.f0.f1,U Z rb.f1.f0,U Z rb.f1.f1] 31:=aV (p:=⟨g11,0,none⟩) m7 DX _
 replace m9:jh (Wg.setCell ⟨g11,0,none⟩ (U Z d0)) g9 #[U Z hd,U Z layer] 33:=aV (p:=⟨g11,0,none⟩) m9 DY _
 replace m10:jh (Wg.setCell ⟨g11,0,none⟩ (U Z d0)) g10 #[U Z 0,U Z 0,U Z 0,U Z 0] 31:=aV (p:=⟨g11,0,none⟩) m10 FC _
 replace m11:jh (Wg.setCell ⟨g11,0,none⟩ (U Z d0)) g11 #[U Z d0,U Z 0] 161:=aN m11 0 _ rfl
 replace mB:Below w.heap.size w (Wg.setCell ⟨g11,0,none⟩ (U Z d0)):=mB.setCell (p:=⟨g11,0,none⟩) aa2 _
 replace mT:jh ((Wg.setCell ⟨g11,0,none⟩ (U Z d0)).setCell ⟨g11,1,none⟩ (U Z d1)) b #[U Z se.nx,U Z se.ny,U Z se.cell,U Z se.slot,U Z se.slots,U Z se.layers,U Z se.most,.slice A7 se.shores.length c7,.slice A8 se.currents.length c8,U Z v.speed,U Z v.dive,U Z v.use.f0,U Z v.use.f1,U Z v.drift.f0,U Z v.drift.f1,U Z v.reserve] 110:=aV (p:=⟨g11,1,none⟩) mT JJ _
 replace m6:jh ((Wg.setCell ⟨g11,0,none⟩ (U Z d0)).setCell ⟨g11,1,none⟩ (U Z d1)) g6 #[U Z x.f0.f0,U Z x.f0.f1,U Z x.f1.f0,U Z x.f1.f1] 31:=aV (p:=⟨g11,1,none⟩) m6 JK _
 replace m7:jh ((Wg.setCell ⟨g11,0,none⟩ (U Z d0)).setCell ⟨g11,1,none⟩ (U Z d1)) g7 #[U Z rb.f0.f0,U Z rb.f0.f1,U Z rb.f1.f0,U Z rb.f1.f1] 31:=aV (p:=⟨g11,1,none⟩) m7 DX _
 replace m9:jh ((Wg.setCell ⟨g11,0,none⟩ (U Z d0)).setCell ⟨g11,1,none⟩ (U Z d1)) g9 #[U Z hd,U Z layer] 33:=aV (p:=⟨g11,1,none⟩) m9 DY _
 replace m10:jh ((Wg.setCell ⟨g11,0,none⟩ (U Z d0)).setCell ⟨g11,1,none⟩ (U Z d1)) g10 #[U Z 0,U Z 0,U Z 0,U Z 0] 31:=aV (p:=⟨g11,1,none⟩) m10 FC _
 replace m11:jh ((Wg.setCell ⟨g11,0,none⟩ (U Z d0)).setCell ⟨g11,1,none⟩ (U Z d1)) g11 #[U Z d0,U Z d1] 161:=aN m11 1 _ rfl
 replace mB:Below w.heap.size w ((Wg.setCell ⟨g11,0,none⟩ (U Z d0)).setCell ⟨g11,1,none⟩ (U Z d1)):=mB.setCell (p:=⟨g11,1,none⟩) aa2 _
 refine hK.out _ _ ?_
 clear hK K
 refine jS aM ?_
 try clear hHeld
 generalize yX:((Wg.setCell ⟨g11,0,none⟩ (U Z d0)).setCell ⟨g11,1,none⟩ (U Z d1)) = W2 at mT m6 m7 m9 m10 m11 mB ⊢
 clear yX
 have Dl:w.heap.size≤W2.heap.size:=mB.size
 go_wp2_with fail
 replace mT:=ag mT
 replace m6:=ag m6
 replace m7:=ag m7
 replace m9:=ag m9
 replace m10:=ag m10
 replace m11:=ag m11
 replace mB:=bO mB
 refine iN (n:=15) (S:=fun w'=>w'.cell? ⟨g7,0,none⟩ = some (U Z rb.f0.f0)∧w'.cell? ⟨g7,1,none⟩ = some (U Z rb.f0.f1)∧w'.cell? ⟨g7,2,none⟩ = some (U Z rb.f1.f0)∧w'.cell? ⟨g7,3,none⟩ = some (U Z rb.f1.f1)∧w'.cell? ⟨g9,0,none⟩ = some (U Z hd)∧w'.cell? ⟨g9,1,none⟩ = some (U Z layer)∧w'.cell? ⟨b,10,none⟩ = some (U Z v.dive)) (ds:=[14]) #[ac,ac,ac,ac,ac,ac,ac,ac,ac,ac,ac,ac,ac,ac,ac] aM rfl rfl ⟨((ah m7 0).trans rfl),((ah m7 1).trans rfl),((ah m7 2).trans rfl),((ah m7 3).trans rfl),((ah m9 0).trans rfl),((ah m9 1).trans rfl),((ah mT 10).trans rfl)⟩ (fun hHeld=>?_)
 generalize hWd:World.drew _ = Wx at mT m6 m7 m9 m10 m11 mB hHeld ⊢
 clear hWd
 refine bV (i:=0) (N:=some 17) aM ?_
 refine bV (i:=2) (N:=some 19) aM ?_
 refine bV (i:=4) (N:=some 21) aM ?_
 refine bV (i:=5) (N:=some 22) aM ?_
 refine bV (i:=6) (N:=some 23) aM ?_
 refine bV (i:=7) (N:=some 24) aM ?_
 refine bV (i:=8) (N:=some 25) aM ?_
 refine bV (i:=9) (N:=some 26) aM ?_
 refine iL (i:=1) (N:=some 18) aM hHeld ?_
 refine iL (i:=3) (N:=some 20) aM hHeld ?_
 refine iL (i:=10) (N:=some 27) aM hHeld ?_
 refine bV (i:=11) (N:=some 28) aM ?_
 refine QE (σ:=Nat) 1 #[ab,ab,ab,ab,ab,ab,ab,ab,ab,ab,ab,ab,ab,ab,ac] (fun s=>[(29,.agg #[U Z y.f0.f0,U Z y.f0.f1,U Z y.f1.f0,U Z y.f1.f1]),(12,.pointer (some ⟨s,0,none⟩))]) (fun s w'=>jh w' b #[U Z se.nx,U Z se.ny,U Z se.cell,U Z se.slot,U Z se.slots,U Z se.layers,U Z se.most,.slice A7 se.shores.length c7,.slice A8 se.currents.length c8,U Z v.speed,U Z v.dive,U Z v.use.f0,U Z v.use.f1,U Z v.drift.f0,U Z v.drift.f1,U Z v.reserve] 110∧jh w' g6 #[U Z x.f0.f0,U Z x.f0.f1,U Z x.f1.f0,U Z x.f1.f1] 31∧jh w' g7 #[U Z rb.f0.f0,U Z rb.f0.f1,U Z rb.f1.f0,U Z rb.f1.f1] 31∧jh w' g9 #[U Z hd,U Z layer] 33∧jh w' g10 #[U Z 0,U Z 0,U Z 0,U Z 0] 31∧jh w' g11 #[U Z d0,U Z d1] 161∧jh w' (s) #[U Z 0,U Z 0,U Z 0,U Z 0] 31∧Below w.heap.size w w'∧w.heap.size≤s∧b≠s∧g6≠s∧g7≠s∧g9≠s∧g10≠s∧g11≠s) ?_ ?_
 rotate_left
 ·intro hCont
  refine U9 (i:=12) (j:=13) (Ni:=some 29) (Nj:=some 12) #[ab,ab,ab,ab,ab,ab,ab,ab,ab,ab,ab,ab,ab,ac,ac] #[ab,ab,ab,ab,ab,ab,ab,ab,ab,ab,ab,ab,ac,ab,ac] rfl rfl rfl rfl aM (by decide) (by decide) (fun K hK=>?_) (fun K hK=>?_)
  ·skip
   have pR:=kA _ w1 (Wx) (hT.below mB)
   refine gJ Try.func70 aM rfl #[.pointer (some ⟨b,0,none⟩),.agg #[U Z rb.f0.f0,U Z rb.f0.f1,U Z rb.f1.f0,U Z rb.f1.f1],U Z layer,U Z t,U Z (wrap64 (t+v.dive))] (by rfl) rfl rfl aaN ?_
   with_reducible refine (pR).mono ?_
   rintro e O3 ⟨rfl,hb⟩
   refine ⟨_,rfl,?_⟩
   clear pR
   replace mT:=aU mT hb
   replace m6:=aU m6 hb
   replace m7:=aU m7 hb
   replace m9:=aU m9 hb
   replace m10:=aU m10 hb
   replace m11:=aU m11 hb
   replace mB:=dY mB hb
   clear hb
   refine hK.out _ _ ⟨((ah m7 0).trans rfl),((ah m7 1).trans rfl),((ah m7 2).trans rfl),((ah m7 3).trans rfl),((ah m9 0).trans rfl),((ah m9 1).trans rfl),((ah mT 10).trans rfl)⟩ (fun hHeld=>?_)
   clear hK K
   refine dM al9 ?_
   refine iO (i:=13) (N:=some 12) #[ab,ab,ab,ab,ab,ab,ab,ab,ab,ab,ab,ab,ab,ab,ac] rfl rfl aM (by decide) (fun K hK=>?_)
   have xz:b≠O3.heap.size:=by have h_:=eG mT;omega
   have qx:g6≠O3.heap.size:=by have h_:=eG m6;omega
   have DZ:g7≠O3.heap.size:=by have h_:=eG m7;omega
   have D5:g9≠O3.heap.size:=by have h_:=eG m9;omega
   have mO:g10≠O3.heap.size:=by have h_:=eG m10;omega
   have vK:g11≠O3.heap.size:=by have h_:=eG m11;omega
   have MN:w.heap.size≤O3.heap.size:=by have h_:=mB.size;omega
   replace mT:=af mT (.cells #[U Z 0,U Z 0,U Z 0,U Z 0] 31)
   replace m6:=af m6 (.cells #[U Z 0,U Z 0,U Z 0,U Z 0] 31)
   replace m7:=af m7 (.cells #[U Z 0,U Z 0,U Z 0,U Z 0] 31)
   replace m9:=af m9 (.cells #[U Z 0,U Z 0,U Z 0,U Z 0] 31)
   replace m10:=af m10 (.cells #[U Z 0,U Z 0,U Z 0,U Z 0] 31)
   replace m11:=af m11 (.cells #[U Z 0,U Z 0,U Z 0,U Z 0] 31)
   have m12:jh (O3.alloc (.cells #[U Z 0,U Z 0,U Z 0,U Z 0] 31)) (O3.heap.size) #[U Z 0,U Z 0,U Z 0,U Z 0] 31:=by have h_:=gT O3 (.cells #[U Z 0,U Z 0,U Z 0,U Z 0] 31);first|exact h_|(simp only [World.size_alloc] at h_;exact h_)
   replace mB:=bA mB (.cells #[U Z 0,U Z 0,U Z 0,U Z 0] 31)
   refine L8 (w1:=?_) (v:=?_) (by rfl) rfl ?_ ?_
   rotate_left 2
   ·go_simp
    constructor
    ·rfl
    ·rfl
   refine hK.out _ _ ⟨((ah m7 0).trans rfl),((ah m7 1).trans rfl),((ah m7 2).trans rfl),((ah m7 3).trans rfl),((ah m9 0).trans rfl),((ah m9 1).trans rfl),((ah mT 10).trans rfl)⟩ (fun hHeld=>?_)
   clear hK K
   refine dM aBE ?_
   exact dM aqj (hCont (O3.heap.size) _ ⟨mT,m6,m7,m9,m10,m11,m12,mB,MN,xz,qx,DZ,D5,mO,vK⟩)
  ·skip
   have xz:b≠Wx.heap.size:=by have h_:=eG mT;omega
   have qx:g6≠Wx.heap.size:=by have h_:=eG m6;omega
   have DZ:g7≠Wx.heap.size:=by have h_:=eG m7;omega
   have D5:g9≠Wx.heap.size:=by have h_:=eG m9;omega
   have mO:g10≠Wx.heap.size:=by have h_:=eG m10;omega
   have vK:g11≠Wx.heap.size:=by have h_:=eG m11;omega
   have MN:w.heap.size≤Wx.heap.size:=by have h_:=mB.size;omega
   replace mT:=af mT (.cells #[U Z 0,U Z 0,U Z 0,U Z 0] 31)
   replace m6:=af m6 (.cells #[U Z 0,U Z 0,U Z 0,U Z 0] 31)
   replace m7:=af m7 (.cells #[U Z 0,U Z 0,U Z 0,U Z 0] 31)
   replace m9:=af m9 (.cells #[U Z 0,U Z 0,U Z 0,U Z 0] 31)
   replace m10:=af m10 (.cells #[U Z 0,U Z 0,U Z 0,U Z 0] 31)
   replace m11:=af m11 (.cells #[U Z 0,U Z 0,U Z 0,U Z 0] 31)
   have m12:jh (Wx.alloc (.cells #[U Z 0,U Z 0,U Z 0,U Z 0] 31)) (Wx.heap.size) #[U Z 0,U Z 0,U Z 0,U Z 0] 31:=by have h_:=gT Wx (.cells #[U Z 0,U Z 0,U Z 0,U Z 0] 31);first|exact h_|(simp only [World.size_alloc] at h_;exact h_)
   replace mB:=bA mB (.cells #[U Z 0,U Z 0,U Z 0,U Z 0] 31)
   refine L8 (w1:=?_) (v:=?_) (by rfl) rfl ?_ ?_
   rotate_left 2
   ·go_simp
    constructor
    ·rfl
    ·rfl
   refine hK.out _ _ ⟨((ah m7 0).trans rfl),((ah m7 1).trans rfl),((ah m7 2).trans rfl),((ah m7 3).trans rfl),((ah m9 0).trans rfl),((ah m9 1).trans rfl),((ah mT 10).trans rfl)⟩ (fun hHeld=>?_)
   clear hK K
   refine dM aBE ?_
   refine iO (i:=12) (N:=some 29) #[ab,ab,ab,ab,ab,ab,ab,ab,ab,ab,ab,ab,ab,ab,ac] rfl rfl aM (by decide) (fun K hK=>?_)
   have pR:=kA _ w1 ((Wx.alloc (.cells #[U Z 0,U Z 0,U Z 0,U Z 0] 31))) (hT.below mB)
   refine gJ Try.func70 aM rfl #[.pointer (some ⟨b,0,none⟩),.agg #[U Z rb.f0.f0,U Z rb.f0.f1,U Z rb.f1.f0,U Z rb.f1.f1],U Z layer,U Z t,U Z (wrap64 (t+v.dive))] (by rfl) rfl rfl aaN ?_
   with_reducible refine (pR).mono ?_
   rintro e O3 ⟨rfl,hb⟩
   refine ⟨_,rfl,?_⟩
   clear pR
   replace mT:=aU mT hb
   replace m6:=aU m6 hb
   replace m7:=aU m7 hb
   replace m9:=aU m9 hb
   replace m10:=aU m10 hb
   replace m11:=aU m11 hb
   replace m12:=aU m12 hb
   replace mB:=dY mB hb
   clear hb
   refine hK.out _ _ ⟨((ah m7 0).trans rfl),((ah m7 1).trans rfl),((ah m7 2).trans rfl),((ah m7 3).trans rfl),((ah m9 0).trans rfl),((ah m9 1).trans rfl),((ah mT 10).trans rfl)⟩ (fun hHeld=>?_)
   clear hK K
   refine dM al9 ?_
   exact dM aqj (hCont (Wx.heap.size) _ ⟨mT,m6,m7,m9,m10,m11,m12,mB,MN,xz,qx,DZ,D5,mO,vK⟩)
 rintro g12 Wg ⟨mT,m6,m7,m9,m10,m11,m12,mB,MN,xz,qx,DZ,D5,mO,vK⟩
 have hHeld:(Wg.cell? ⟨g7,0,none⟩ = some (U Z rb.f0.f0)∧Wg.cell? ⟨g7,1,none⟩ = some (U Z rb.f0.f1)∧Wg.cell? ⟨g7,2,none⟩ = some (U Z rb.f1.f0)∧Wg.cell? ⟨g7,3,none⟩ = some (U Z rb.f1.f1)∧Wg.cell? ⟨g9,0,none⟩ = some (U Z hd)∧Wg.cell? ⟨g9,1,none⟩ = some (U Z layer)∧Wg.cell? ⟨b,10,none⟩ = some (U Z v.dive)):=⟨((ah m7 0).trans rfl),((ah m7 1).trans rfl),((ah m7 2).trans rfl),((ah m7 3).trans rfl),((ah m9 0).trans rfl),((ah m9 1).trans rfl),((ah mT 10).trans rfl)⟩
 refine dM (a':=?_) ?_ ?_
 rotate_left
 ·simp only [xC,Act.put,List.setIfInBounds_toArray,List.set_cons_zero,List.set_cons_succ]
  rfl
 refine TI (i:=14) (N:=none) #[ab,ab,ab,ab,ab,ab,ab,ab,ab,ab,ab,ab,ab,ab,ab] rfl rfl aM (by decide) (fun K hK=>?_)
 have U5:=bf m12 0
 have Q0:=(ah m12 0).trans rfl
 have U6:=bf m12 1
 have U7:=(ah m12 1).trans rfl
 have ap6:=bf m12 2
 have ap8:=(ah m12 2).trans rfl
 have ap7:=bf m12 3
 have ap9:=(ah m12 3).trans rfl
 refine ve (w1:=?_) (by rfl) rfl ?_ ?_
 rotate_left
 ·go_simp
  rfl
 clear U5 Q0 U6 U7 ap6 ap8 ap7 ap9
 replace mT:jh (Wg.setCell ⟨g12,0,none⟩ (U Z y.f0.f0)) b #[U Z se.nx,U Z se.ny,U Z se.cell,U Z se.slot,U Z se.slots,U Z se.layers,U Z se.most,.slice A7 se.shores.length c7,.slice A8 se.currents.length c8,U Z v.speed,U Z v.dive,U Z v.use.f0,U Z v.use.f1,U Z v.drift.f0,U Z v.drift.f1,U Z v.reserve] 110:=aV (p:=⟨g12,0,none⟩) mT xz _
 replace m6:jh (Wg.setCell ⟨g12,0,none⟩ (U Z y.f0.f0)) g6 #[U Z x.f0.f0,U Z x.f0.f1,U Z x.f1.f0,U Z x.f1.f1] 31:=aV (p:=⟨g12,0,none⟩) m6 qx _
 replace m7:jh (Wg.setCell ⟨g12,0,none⟩ (U Z y.f0.f0)) g7 #[U Z rb.f0.f0,U Z rb.f0.f1,U Z rb.f1.f0,U Z rb.f1.f1] 31:=aV (p:=⟨g12,0,none⟩) m7 DZ _
 replace m9:jh (Wg.setCell ⟨g12,0,none⟩ (U Z y.f0.f0)) g9 #[U Z hd,U Z layer] 33:=aV (p:=⟨g12,0,none⟩) m9 D5 _
 replace m10:jh (Wg.setCell ⟨g12,0,none⟩ (U Z y.f0.f0)) g10 #[U Z 0,U Z 0,U Z 0,U Z 0] 31:=aV (p:=⟨g12,0,none⟩) m10 mO _
 replace m11:jh (Wg.setCell ⟨g12,0,none⟩ (U Z y.f0.f0)) g11 #[U Z d0,U Z d1] 161:=aV (p:=⟨g12,0,none⟩) m11 vK _
 replace m12:jh (Wg.setCell ⟨g12,0,none⟩ (U Z y.f0.f0)) g12 #[U Z y.f0.f0,U Z 0,U Z 0,U Z 0] 31:=aN m12 0 _ rfl
 replace mB:Below w.heap.size w (Wg.setCell ⟨g12,0,none⟩ (U Z y.f0.f0)):=mB.setCell (p:=⟨g12,0,none⟩) MN _
 replace mT:jh ((Wg.setCell ⟨g12,0,none⟩ (U Z y.f0.f0)).setCell ⟨g12,1,none⟩ (U Z y.f0.f1)) b #[U Z se.nx,U Z se.ny,U Z se.cell,U Z se.slot,U Z se.slots,U Z se.layers,U Z se.most,.slice A7 se.shores.length c7,.slice A8 se.currents.length c8,U Z v.speed,U Z v.dive,U Z v.use.f0,U Z v.use.f1,U Z v.drift.f0,U Z v.drift.f1,U Z v.reserve] 110:=aV (p:=⟨g12,1,none⟩) mT xz _
 replace m6:jh ((Wg.setCell ⟨g12,0,none⟩ (U Z y.f0.f0)).setCell ⟨g12,1,none⟩ (U Z y.f0.f1)) g6 #[U Z x.f0.f0,U Z x.f0.f1,U Z x.f1.f0,U Z x.f1.f1] 31:=aV (p:=⟨g12,1,none⟩) m6 qx _
 replace m7:jh ((Wg.setCell ⟨g12,0,none⟩ (U Z y.f0.f0)).setCell ⟨g12,1,none⟩ (U Z y.f0.f1)) g7 #[U Z rb.f0.f0,U Z rb.f0.f1,U Z rb.f1.f0,U Z rb.f1.f1] 31:=aV (p:=⟨g12,1,none⟩) m7 DZ _
 replace m9:jh ((Wg.setCell ⟨g12,0,none⟩ (U Z y.f0.f0)).setCell ⟨g12,1,none⟩ (U Z y.f0.f1)) g9 #[U Z hd,U Z layer] 33:=aV (p:=⟨g12,1,none⟩) m9 D5 _
 replace m10:jh ((Wg.setCell ⟨g12,0,none⟩ (U Z y.f0.f0)).setCell ⟨g12,1,none⟩ (U Z y.f0.f1)) g10 #[U Z 0,U Z 0,U Z 0,U Z 0] 31:=aV (p:=⟨g12,1,none⟩) m10 mO _
 replace m11:jh ((Wg.setCell ⟨g12,0,none⟩ (U Z y.f0.f0)).setCell ⟨g12,1,none⟩ (U Z y.f0.f1)) g11 #[U Z d0,U Z d1] 161:=aV (p:=⟨g12,1,none⟩) m11 vK _
 replace m12:jh ((Wg.setCell ⟨g12,0,none⟩ (U Z y.f0.f0)).setCell ⟨g12,1,none⟩ (U Z y.f0.f1)) g12 #[U Z y.f0.f0,U Z y.f0.f1,U Z 0,U Z 0] 31:=aN m12 1 _ rfl
 replace mB:Below w.heap.size w ((Wg.setCell ⟨g12,0,none⟩ (U Z y.f0.f0)).setCell ⟨g12,1,none⟩ (U Z y.f0.f1)):=mB.setCell (p:=⟨g12,1,none⟩) MN _
 replace mT:jh (((Wg.setCell ⟨g12,0,none⟩ (U Z y.f0.f0)).setCell ⟨g12,1,none⟩ (U Z y.f0.f1)).setCell ⟨g12,2,none⟩ (U Z y.f1.f0)) b #[U Z se.nx,U Z se.ny,U Z se.cell,U Z se.slot,U Z se.slots,U Z se.layers,U Z se.most,.slice A7 se.shores.length c7,.slice A8 se.currents.length c8,U Z v.speed,U Z v.dive,U Z v.use.f0,U Z v.use.f1,U Z v.drift.f0,U Z v.drift.f1,U Z v.reserve] 110:=aV (p:=⟨g12,2,none⟩) mT xz _
 replace m6:jh (((Wg.setCell ⟨g12,0,none⟩ (U Z y.f0.f0)).setCell ⟨g12,1,none⟩ (U Z y.f0.f1)).setCell ⟨g12,2,none⟩ (U Z y.f1.f0)) g6 #[U Z x.f0.f0,U Z x.f0.f1,U Z x.f1.f0,U Z x.f1.f1] 31:=aV (p:=⟨g12,2,none⟩) m6 qx _
 replace m7:jh (((Wg.setCell ⟨g12,0,none⟩ (U Z y.f0.f0)).setCell ⟨g12,1,none⟩ (U Z y.f0.f1)).setCell ⟨g12,2,none⟩ (U Z y.f1.f0)) g7 #[U Z rb.f0.f0,U Z rb.f0.f1,U Z rb.f1.f0,U Z rb.f1.f1] 31:=aV (p:=⟨g12,2,none⟩) m7 DZ _
 replace m9:jh (((Wg.setCell ⟨g12,0,none⟩ (U Z y.f0.f0)).setCell ⟨g12,1,none⟩ (U Z y.f0.f1)).setCell ⟨g12,2,none⟩ (U Z y.f1.f0)) g9 #[U Z hd,U Z layer] 33:=aV (p:=⟨g12,2,none⟩) m9 D5 _
 replace m10:jh (((Wg.setCell ⟨g12,0,none⟩ (U Z y.f0.f0)).setCell ⟨g12,1,none⟩ (U Z y.f0.f1)).setCell ⟨g12,2,none⟩ (U Z y.f1.f0)) g10 #[U Z 0,U Z 0,U Z 0,U Z 0] 31:=aV (p:=⟨g12,2,none⟩) m10 mO _
 replace m11:jh (((Wg.setCell ⟨g12,0,none⟩ (U Z y.f0.f0)).setCell ⟨g12,1,none⟩ (U Z y.f0.f1)).setCell ⟨g12,2,none⟩ (U Z y.f1.f0)) g11 #[U Z d0,U Z d1] 161:=aV (p:=⟨g12,2,none⟩) m11 vK _
 replace m12:jh (((Wg.setCell ⟨g12,0,none⟩ (U Z y.f0.f0)).setCell ⟨g12,1,none⟩ (U Z y.f0.f1)).setCell ⟨g12,2,none⟩ (U Z y.f1.f0)) g12 #[U Z y.f0.f0,U Z y.f0.f1,U Z y.f1.f0,U Z 0] 31:=aN m12 2 _ rfl
 replace mB:Below w.heap.size w (((Wg.setCell ⟨g12,0,none⟩ (U Z y.f0.f0)).setCell ⟨g12,1,none⟩ (U Z y.f0.f1)).setCell ⟨g12,2,none⟩ (U Z y.f1.f0)):=mB.setCell (p:=⟨g12,2,none⟩) MN _
 replace mT:jh ((((Wg.setCell ⟨g12,0,none⟩ (U Z y.f0.f0)).setCell ⟨g12,1,none⟩ (U Z y.f0.f1)).setCell ⟨g12,2,none⟩ (U Z y.f1.f0)).setCell ⟨g12,3,none⟩ (U Z y.f1.f1)) b #[U Z se.nx,U Z se.ny,U Z se.cell,U Z se.slot,U Z se.slots,U Z se.layers,U Z se.most,.slice A7 se.shores.length c7,.slice A8 se.currents.length c8,U Z v.speed,U Z v.dive,U Z v.use.f0,U Z v.use.f1,U Z v.drift.f0,U Z v.drift.f1,U Z v.reserve] 110:=aV (p:=⟨g12,3,none⟩) mT xz _
 replace m6:jh ((((Wg.setCell ⟨g12,0,none⟩ (U Z y.f0.f0)).setCell ⟨g12,1,none⟩ (U Z y.f0.f1)).setCell ⟨g12,2,none⟩ (U Z y.f1.f0)).setCell ⟨g12,3,none⟩ (U Z y.f1.f1)) g6 #[U Z x.f0.f0,U Z x.f0.f1,U Z x.f1.f0,U Z x.f1.f1] 31:=aV (p:=⟨g12,3,none⟩) m6 qx _
 replace m7:jh ((((Wg.setCell ⟨g12,0,none⟩ (U Z y.f0.f0)).setCell ⟨g12,1,none⟩ (U Z y.f0.f1)).setCell ⟨g12,2,none⟩ (U Z y.f1.f0)).setCell ⟨g12,3,none⟩ (U Z y.f1.f1)) g7 #[U Z rb.f0.f0,U Z rb.f0.f1,U Z rb.f1.f0,U Z rb.f1.f1] 31:=aV (p:=⟨g12,3,none⟩) m7 DZ _
 replace m9:jh ((((Wg.setCell ⟨g12,0,none⟩ (U Z y.f0.f0)).setCell ⟨g12,1,none⟩ (U Z y.f0.f1)).setCell ⟨g12,2,none⟩ (U Z y.f1.f0)).setCell ⟨g12,3,none⟩ (U Z y.f1.f1)) g9 #[U Z hd,U Z layer] 33:=aV (p:=⟨g12,3,none⟩) m9 D5 _
 replace m10:jh ((((Wg.setCell ⟨g12,0,none⟩ (U Z y.f0.f0)).setCell ⟨g12,1,none⟩ (U Z y.f0.f1)).setCell ⟨g12,2,none⟩ (U Z y.f1.f0)).setCell ⟨g12,3,none⟩ (U Z y.f1.f1)) g10 #[U Z 0,U Z 0,U Z 0,U Z 0] 31:=aV (p:=⟨g12,3,none⟩) m10 mO _
 replace m11:jh ((((Wg.setCell ⟨g12,0,none⟩ (U Z y.f0.f0)).setCell ⟨g12,1,none⟩ (U Z y.f0.f1)).setCell ⟨g12,2,none⟩ (U Z y.f1.f0)).setCell ⟨g12,3,none⟩ (U Z y.f1.f1)) g11 #[U Z d0,U Z d1] 161:=aV (p:=⟨g12,3,none⟩) m11 vK _
 replace m12:jh ((((Wg.setCell ⟨g12,0,none⟩ (U Z y.f0.f0)).setCell ⟨g12,1,none⟩ (U Z y.f0.f1)).setCell ⟨g12,2,none⟩ (U Z y.f1.f0)).setCell ⟨g12,3,none⟩ (U Z y.f1.f1)) g12 #[U Z y.f0.f0,U Z y.f0.f1,U Z y.f1.f0,U Z y.f1.f1] 31:=aN m12 3 _ rfl
 replace mB:Below w.heap.size w ((((Wg.setCell ⟨g12,0,none⟩ (U Z y.f0.f0)).setCell ⟨g12,1,none⟩ (U Z y.f0.f1)).setCell ⟨g12,2,none⟩ (U Z y.f1.f0)).setCell ⟨g12,3,none⟩ (U Z y.f1.f1)):=mB.setCell (p:=⟨g12,3,none⟩) MN _
 refine hK.out _ _ ?_
 clear hK K
 refine jS aM ?_
 try clear hHeld
 generalize yX:((((Wg.setCell ⟨g12,0,none⟩ (U Z y.f0.f0)).setCell ⟨g12,1,none⟩ (U Z y.f0.f1)).setCell ⟨g12,2,none⟩ (U Z y.f1.f0)).setCell ⟨g12,3,none⟩ (U Z y.f1.f1)) = W3 at mT m6 m7 m9 m10 m11 m12 mB ⊢
 clear yX
 have LA:w.heap.size≤W3.heap.size:=mB.size
 go_wp2_with fail
 replace mT:=ag mT
 replace m6:=ag m6
 replace m7:=ag m7
 replace m9:=ag m9
 replace m10:=ag m10
 replace m11:=ag m11
 replace m12:=ag m12
 replace mB:=bO mB
 refine iN (n:=30) (S:=fun w'=>w'.cell? ⟨g6,0,none⟩ = some (U Z x.f0.f0)∧w'.cell? ⟨g6,1,none⟩ = some (U Z x.f0.f1)∧w'.cell? ⟨g6,2,none⟩ = some (U Z x.f1.f0)∧w'.cell? ⟨g6,3,none⟩ = some (U Z x.f1.f1)∧w'.cell? ⟨g11,0,none⟩ = some (U Z d0)∧w'.cell? ⟨g11,1,none⟩ = some (U Z d1)∧w'.cell? ⟨g12,0,none⟩ = some (U Z y.f0.f0)∧w'.cell? ⟨g12,1,none⟩ = some (U Z y.f0.f1)∧w'.cell? ⟨g12,2,none⟩ = some (U Z y.f1.f0)∧w'.cell? ⟨g12,3,none⟩ = some (U Z y.f1.f1)∧w'.cell? ⟨b,9,none⟩ = some (U Z v.speed)) (ds:=[29]) #[ac,ac,ac,ac,ac,ac,ac,ac,ac,ac,ac,ac,ac,ac,ac,ac,ac,ac,ac,ac,ac,ac,ac,ac,ac,ac,ac,ac,ac,ac] aM rfl rfl ⟨((ah m6 0).trans rfl),((ah m6 1).trans rfl),((ah m6 2).trans rfl),((ah m6 3).trans rfl),((ah m11 0).trans rfl),((ah m11 1).trans rfl),((ah m12 0).trans rfl),((ah m12 1).trans rfl),((ah m12 2).trans rfl),((ah m12 3).trans rfl),((ah mT 9).trans rfl)⟩ (fun hHeld=>?_)
 generalize hWd:World.drew _ = Wx at mT m6 m7 m9 m10 m11 m12 mB hHeld ⊢
 clear hWd
 refine bV (i:=0) (N:=some 30) aM ?_
 refine bV (i:=1) (N:=some 31) aM ?_
 refine bV (i:=3) (N:=some 33) aM ?_
 refine bV (i:=5) (N:=some 35) aM ?_
 refine bV (i:=6) (N:=some 36) aM ?_
 refine bV (i:=7) (N:=some 37) aM ?_
 refine bV (i:=8) (N:=some 38) aM ?_
 refine bV (i:=11) (N:=some 41) aM ?_
 refine bV (i:=14) (N:=some 44) aM ?_
 refine bV (i:=15) (N:=some 45) aM ?_
 refine bV (i:=17) (N:=some 47) aM ?_
 refine bV (i:=19) (N:=some 49) aM ?_
 refine bV (i:=20) (N:=some 50) aM ?_
 refine bV (i:=21) (N:=some 51) aM ?_
 refine bV (i:=22) (N:=some 52) aM ?_
 refine bV (i:=25) (N:=some 55) aM ?_
 refine iL (i:=2) (N:=some 32) aM hHeld ?_
 refine iL (i:=4) (N:=some 34) aM hHeld ?_
 refine iL (i:=9) (N:=some 39) aM hHeld ?_
 refine bV (i:=10) (N:=some 40) aM ?_
 refine iL (i:=12) (N:=some 42) aM hHeld ?_
 refine iL (i:=16) (N:=some 46) aM hHeld ?_
 refine iL (i:=18) (N:=some 48) aM hHeld ?_
 refine iL (i:=23) (N:=some 53) aM hHeld ?_
 refine bV (i:=24) (N:=some 54) aM ?_
 refine iL (i:=26) (N:=some 56) aM hHeld ?_
 refine iO (i:=13) (N:=some 43) #[ab,ab,ab,ab,ab,ab,ab,ab,ab,ab,ab,ab,ab,ab,ab,ab,ab,ab,ab,ab,ab,ab,ab,ab,ab,ab,ab,ac,ac,ac] rfl rfl aM (by decide) (fun K hK=>?_)
 have pR:=kS0 _ w2 Wx (hT.below mB)
 refine gJ Try.func131 aM rfl #[.pointer (some ⟨b,0,none⟩),.agg #[U Z x.f0.f0,U Z x.f0.f1],U Z (wrap64 (d0*v.speed)),.agg #[U Z y.f0.f0,U Z y.f0.f1]] (by rfl) rfl rfl aaN ?_
 with_reducible refine (pR).mono ?_
 rintro e FD ⟨rfl,hb⟩
 refine ⟨_,rfl,?_⟩
 clear pR
 replace mT:=aU mT hb
 replace m6:=aU m6 hb
 replace m7:=aU m7 hb
 replace m9:=aU m9 hb
 replace m10:=aU m10 hb
 replace m11:=aU m11 hb
 replace m12:=aU m12 hb
 replace mB:=dY mB hb
 clear hb
 refine hK.out _ _ ⟨((ah m6 0).trans rfl),((ah m6 1).trans rfl),((ah m6 2).trans rfl),((ah m6 3).trans rfl),((ah m11 0).trans rfl),((ah m11 1).trans rfl),((ah m12 0).trans rfl),((ah m12 1).trans rfl),((ah m12 2).trans rfl),((ah m12 3).trans rfl),((ah mT 9).trans rfl)⟩ (fun hHeld=>?_)
 clear hK K
 refine dM aBF ?_
 refine iO (i:=27) (N:=some 57) #[ab,ab,ab,ab,ab,ab,ab,ab,ab,ab,ab,ab,ab,ab,ab,ab,ab,ab,ab,ab,ab,ab,ab,ab,ab,ab,ab,ab,ac,ac] rfl rfl aM (by decide) (fun K hK=>?_)
 have pR:=kS1 _ w3 FD (hT.below mB)
 refine gJ Try.func131 aM rfl #[.pointer (some ⟨b,0,none⟩),.agg #[U Z x.f1.f0,U Z x.f1.f1],U Z (wrap64 (d1*v.speed)),.agg #[U Z y.f1.f0,U Z y.f1.f1]] (by rfl) rfl rfl aaN ?_
 with_reducible refine (pR).mono ?_
 rintro e w27 ⟨rfl,hb⟩
 refine ⟨_,rfl,?_⟩
 clear pR
 replace mT:=aU mT hb
 replace m6:=aU m6 hb
 replace m7:=aU m7 hb
 replace m9:=aU m9 hb
 replace m10:=aU m10 hb
 replace m11:=aU m11 hb
 replace m12:=aU m12 hb
 replace mB:=dY mB hb
 clear hb
 refine hK.out _ _ ⟨((ah m6 0).trans rfl),((ah m6 1).trans rfl),((ah m6 2).trans rfl),((ah m6 3).trans rfl),((ah m11 0).trans rfl),((ah m11 1).trans rfl),((ah m12 0).trans rfl),((ah m12 1).trans rfl),((ah m12 2).trans rfl),((ah m12 3).trans rfl),((ah mT 9).trans rfl)⟩ (fun hHeld=>?_)
 clear hK K
 refine dM (by show Act.put _ (some 57) _ = _;simp only [Act.put,List.setIfInBounds_toArray,List.set_cons_zero,List.set_cons_succ,ib,ig];rfl) ?_
 refine bV (i:=28) (N:=some 58) aM ?_
 refine TI (i:=29) (N:=none) #[ab,ab,ab,ab,ab,ab,ab,ab,ab,ab,ab,ab,ab,ab,ab,ab,ab,ab,ab,ab,ab,ab,ab,ab,ab,ab,ab,ab,ab,ab] rfl rfl aM (by decide) (fun K hK=>?_)
 have U5:=bf m10 0
 have U6:=bf m10 1
 have ap6:=bf m10 2
 have ap7:=bf m10 3
 have Q0:=(ah m10 0).trans rfl
 have U7:=(ah m10 1).trans rfl
 have ap8:=(ah m10 2).trans rfl
 have ap9:=(ah m10 3).trans rfl
 refine ve (w1:=?_) (by rfl) rfl ?_ ?_
 rotate_left
 ·go_simp
  rfl
 refine hK.out _ _ ?_
 clear hK K
 refine jS aM ?_
 go_wp2
 exact bodyPost_ret (results_cell_row rfl _ _ g10 31 #[U Z (pM v.dive x.f0 (d0*v.speed) y.f0).f0,U Z (pM v.dive x.f0 (d0*v.speed) y.f0).f1,U Z (pM v.dive x.f1 (d1*v.speed) y.f1).f0,U Z (pM v.dive x.f1 (d1*v.speed) y.f1).f1] (0,0) _ rfl (aN (aN (aN (aN m10 0 (U Z (pM v.dive x.f0 (d0*v.speed) y.f0).f0) rfl) 1 (U Z (pM v.dive x.f0 (d0*v.speed) y.f0).f1) rfl) 2 (U Z (pM v.dive x.f1 (d1*v.speed) y.f1).f0) rfl) 3 (U Z (pM v.dive x.f1 (d1*v.speed) y.f1).f1) rfl) Try.underlying31 rfl aM) rfl ⟨by rw [HR.out],(Below.setCell (p:=⟨g10,3,none⟩) (Below.setCell (p:=⟨g10,2,none⟩) (Below.setCell (p:=⟨g10,1,none⟩) (Below.setCell (p:=⟨g10,0,none⟩) mB rA _) rA _) rA _) rA _)⟩
end Go.Proofs.Ytmhaiihjfgfaoaa.Gl
end
