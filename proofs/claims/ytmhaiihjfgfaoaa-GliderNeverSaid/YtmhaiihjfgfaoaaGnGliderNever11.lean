import Derived.Test.YtmhaiihjfgfaoaaGnGliderNever3
import Derived.Test.YtmhaiihjfgfaoaaGnGliderNever10
open Go.Value renaming int → Z
open Go.IntKind renaming i64 → ab
open Bool renaming true → ac, false → al
section
namespace Go.Proofs.Ytmhaiihjfgfaoaa.Gl
open Go.RowKit Go.Shelf Go.Proofs.YtmhaiihjfgfaoaaW.PrintWords Go.Proofs.YtmhaiihjfgfaoaaW.PrintLast Go.Proofs.YtmhaiihjfgfaoaaW.PrintMore Go.Proofs.Ytmhaiihjfgfaoaa.Pr Go.Proofs.YtmhaiihjfgfaoaaW.Round
set_option linter.unusedVariables false
set_option linter.unusedSimpArgs false
attribute [local go_sem] dw dx dM dN dz
attribute [local go_sem] Oper.semAt_some
theorem adh (a b:Int):mn a b = min a b:=by unfold mn;split <;> omega
theorem FW (a b:Int):mx a b = max a b:=by unfold mx;split <;> omega
def mW (a b:cZ):cZ:=⟨⟨min a.f0.f0 b.f0.f0,max a.f0.f1 b.f0.f1⟩,⟨min a.f1.f0 b.f1.f0,max a.f1.f1 b.f1.f1⟩⟩
def Ya (o:Option cZ) (y:cZ):Option cZ:=some (match o with|none=>y|some z=>mW z y)
def qa (l:List cZ):Option cZ:=l.foldl Ya none
theorem PD (l:List cZ) (y:cZ):qa (l++[y]) = Ya (qa l) y:=by unfold qa;rw [List.foldl_append];rfl
def uT (s:fT) (layer j c:Int):cZ:=⟨(bQ s.currents ((j*s.layers+layer)*(s.nx*s.ny)+c)).f0,(bQ s.currents ((j*s.layers+layer)*(s.nx*s.ny)+c)).f1⟩
def slotL (s:fT) (x:cZ) (layer j:Int):List cZ:=(pg s x).map (uT s layer j)
def fI (s:fT) (x:cZ) (layer j0:Int) (q:Nat):List cZ:=(List.range q).flatMap fun r:Nat=>slotL s x layer (j0+(r:Int))
theorem Yb (s:fT) (x:cZ) (layer j0:Int) (q:Nat):fI s x layer j0 (q+1) = fI s x layer j0 q++slotL s x layer (j0+(q:Int)):=by
 unfold fI
 rw [List.range_succ,List.flatMap_append,List.flatMap_singleton]
def R8 (s:fT) (x:cZ) (layer t u:Int):cZ:=(qa (fI s x layer (t / s.slot) ((u - 1) / s.slot+1 - t / s.slot).toNat)).getD z31
def EZ (w:World) (bp bx b:Nat) (x:cZ) (A B:World):Prop:=Below w.heap.size A B∧(aZ A bp #[.pointer (some ⟨b,0,none⟩)] 104→aZ B bp #[.pointer (some ⟨b,0,none⟩)] 104)∧(aZ A bx #[Z ab x.f0.f0,Z ab x.f0.f1,Z ab x.f1.f0,Z ab x.f1.f1] 31→aZ B bx #[Z ab x.f0.f0,Z ab x.f0.f1,Z ab x.f1.f0,Z ab x.f1.f1] 31)
theorem EZ.trans {w:World} {bp bx b:Nat} {x:cZ} {A B C:World} (h:EZ w bp bx b x A B) (k:EZ w bp bx b x B C):EZ w bp bx b x A C:=⟨h.1.trans k.1,fun q=>k.2.1 (h.2.1 q),fun q=>k.2.2 (h.2.2 q)⟩
theorem EZ.put {w W0:World} {bp bx b:Nat} {x:cZ} (hw:w.heap.size≤W0.heap.size) (hp:bp < W0.heap.size) (hx:bx < W0.heap.size) (W:World) (l:Nat) (o o':Obj) (hl:W0.heap.size≤l) (h:W.heap[l]? = some o) (h1:o.isCells = false) (h2:o.isWalk = false):EZ w bp bx b x W (W.putObj l o') :=
 ⟨belowK_b hw W l o o' hl h h1 h2,fun q=>(World.putObj_heap_other (by omega)).trans q,fun q=>(World.putObj_heap_other (by omega)).trans q⟩
theorem EZ.below {w:World} {bp bx b:Nat} {x:cZ} {A B:World} (hw:w.heap.size≤A.heap.size) (h:Below A.heap.size A B):EZ w bp bx b x A B:=⟨h.mono hw,fun q=>aZ.qm q h,fun q=>aZ.qm q h⟩
theorem EZ.set {w:World} {bp bx b:Nat} {x:cZ} {A B:World} (h:EZ w bp bx b x A B) {p:Addr} (hp:w.heap.size≤p.block) (h1:bp≠p.block) (h2:bx≠p.block) (u:Value):EZ w bp bx b x A (B.setCell p u):=⟨h.1.setCell hp u,fun q=>ah (h.2.1 q) h1 u,fun q=>ah (h.2.2 q) h2 u⟩
def mark (D_:Nat):Deferred:={ target:=.collected D_,args:=#[] }
def Marks (W:World) (B:Nat) (Ds:List Nat):Prop:=Ds.Nodup∧∀ D_ ∈ Ds,B≤D_∧W.heap[D_]? = some (.deferred (some []))
theorem Marks.nil (W:World) (B:Nat):Marks W B []:=⟨List.nodup_nil,fun D_ h=>by cases h⟩
theorem Marks.below {W W1:World} {B:Nat} {Ds:List Nat} (h:Marks W B Ds) (hb:Below W.heap.size W W1):Marks W1 B Ds :=
 ⟨h.1,fun D_ hD=>⟨(h.2 D_ hD).1,(hb.block D_ (Array.getElem?_eq_some_iff.1 (h.2 D_ hD).2).1).trans (h.2 D_ hD).2⟩⟩
theorem Marks.cons {W:World} {B D_:Nat} {Ds:List Nat} (h:Marks W B Ds) (hn:D_ ∉ Ds) (hB:B≤D_) (hD:W.heap[D_]? = some (.deferred (some []))):Marks W B (D_ :: Ds) :=
 ⟨List.nodup_cons.2 ⟨hn,h.1⟩,fun E hE=>by
  rcases List.mem_cons.1 hE with rfl|hE
  ·exact ⟨hB,hD⟩
  ·exact h.2 E hE⟩
theorem Marks.set {W:World} {B:Nat} {Ds:List Nat} (h:Marks W B Ds) {g i:Nat} {cs:Array Value} {t:TypeId} (hg:W.heap[g]? = some (.cells cs t (0,0))) (u:Value):Marks (W.setCell ⟨g,i,none⟩ u) B Ds :=
 ⟨h.1,fun D_ hD=>⟨(h.2 D_ hD).1,(Below.heap_setCell _ _ _ D_ (fun e=>by
  have h2:=(h.2 D_ hD).2
  rw [show D_ = g from e,hg] at h2
  cases h2)).trans (h.2 D_ hD).2⟩⟩
theorem xR {β:Type} (B B0:Nat) (Ds:List Nat) (h:∀ D_ ∈ Ds,D_ < B):OwnFrom B (fun (_:β) W=>Marks W B0 Ds):=fun s X Y row hs hg hr =>
 ⟨hs.1,fun D_ hD=>⟨(hs.2 D_ hD).1,(hg.block D_ (Array.getElem?_eq_some_iff.1 (hs.2 D_ hD).2).1 (fun e=>by have h1:=(hr D_ e.symm).1;have h2:=h D_ hD;omega)).trans (hs.2 D_ hD).2⟩⟩
theorem iV {P:Program} {F:Fence} {n:Nat} {fn:Func} {tmps:Array Value} {R:Ending→World→Prop} {B:Nat} (I:World→Prop) (hI:∀ W D_,I W→B≤D_→W.heap[D_]? = some (.deferred (some []))→I (W.putObj D_ (.deferred none)))
 (hend:∀ W,I W→LeavesInM F n P fn tmps R [] .returning W):∀ (Ds:List Nat) (W:World),Marks W B Ds→I W→LeavesInM F n P fn tmps R (Ds.map mark) .returning W
 |[],W,_,h=>hend W h
 |D_ :: Ds,W,hM,h=>by
  have hD:=hM.2 D_ List.mem_cons_self
  refine ⟨by simp,.inl ⟨D_,_,rfl,run_takeDeferred hD.2,?_⟩⟩
  refine iV I hI hend Ds _ ⟨(List.nodup_cons.1 hM.1).2,fun E hE=>?_⟩ (hI W D_ h hD.1 hD.2)
  have hE2:=hM.2 E (List.mem_cons_of_mem _ hE)
  have hne:E≠D_:=fun e=>(List.nodup_cons.1 hM.1).1 (e ▸ hE)
  exact ⟨hE2.1,(World.putObj_heap_other (fun e=>hne e)).trans hE2.2⟩
theorem agM {q l k c ll kk:Int} (h0:0≤q) (h1:q < ll) (h2:0≤l) (h3:l < kk) (h4:0≤c) (h5:c < k):0≤(q*kk+l)*k+c∧(q*kk+l)*k+c < ll*kk*k:=by
 have a0:0≤q*kk:=Int.mul_nonneg h0 (by omega)
 have a1:0≤(q*kk+l)*k:=Int.mul_nonneg (by omega) (by omega)
 have a2:(q+1)*kk≤ll*kk:=Int.mul_le_mul_of_nonneg_right (by omega) (by omega)
 rw [Int.add_mul,Int.one_mul] at a2
 have a3:(q*kk+l+1)*k≤ll*kk*k:=Int.mul_le_mul_of_nonneg_right (by omega) (by omega)
 rw [Int.add_mul,Int.one_mul] at a3
 omega
def jP (l:List cZ):cZ:=(qa l).getD z31
theorem PE {l:List cZ} {y:cZ} (h:qa l = none):qa (l++[y]) = some y:=by rw [PD,h];rfl
theorem PG {l:List cZ} {y z:cZ} (h:qa l = some z):qa (l++[y]) = some (mW z y):=by rw [PD,h];rfl
theorem Yc (a c:cZ) (w:World):Calls Try.prog 119 #[.agg #[Z ab a.f0.f0,Z ab a.f0.f1,Z ab a.f1.f0,Z ab a.f1.f1],.agg #[Z ab c.f0.f0,Z ab c.f0.f1,Z ab c.f1.f0,Z ab c.f1.f1]] w
 (oo (.agg #[Z ab (mW a c).f0.f0,Z ab (mW a c).f0.f1,Z ab (mW a c).f1.f0,Z ab (mW a c).f1.f1]) w) :=
 vJ.calls _ _ _ _ _ _ _ _ _ _ _ _ w (by unfold vJ.f mW;simp only [adh,FW])
set_option maxRecDepth 100000 in
set_option maxHeartbeats 8000000 in
theorem aoV (b:Nat) (s:fT) (v:iw) (x:cZ) (layer t u:Int) (w:World) (hT:dZ w b s v) (hS:Fg s) (hx:R6 s x) (hcu:(s.currents.length:Int) = s.slots*s.layers*(s.nx*s.ny)) (hl0:0≤layer) (hl1:layer < s.layers) (ht0:0≤t) (ht1:t < u) (ht2:u≤s.slots*s.slot):
 Calls Try.prog 70 #[.pointer (some ⟨b,0,none⟩),.agg #[Z ab x.f0.f0,Z ab x.f0.f1,Z ab x.f1.f0,Z ab x.f1.f1],Z ab layer,Z ab t,Z ab u] w (oo (.agg #[Z ab (R8 s x layer t u).f0.f0,Z ab (R8 s x layer t u).f0.f1,Z ab (R8 s x layer t u).f1.f0,Z ab (R8 s x layer t u).f1.f1]) w):=by
 have pG:=Try.underlying31
 have hxy:=jy (show 0≤s.nx by have:=hS.nx;omega) hS.nx.2 (show 0≤s.ny by have:=hS.ny;omega) hS.ny.2
 have hss:=jy (show 0≤s.slots by have:=hS.slots;omega) hS.slots.2 (show 0≤s.slot by have:=hS.slot;omega) hS.slot.2
 have hsl:=hS.slot
 have hso:=hS.slots
 have hla:=hS.layers
 have hcl:s.currents.length≤10000:=by
  have h1:=jy (show 0≤s.slots by omega) hso.2 (show 0≤s.layers by omega) hla.2
  have h2:=jy h1.1 h1.2 hxy.1 hxy.2
  omega
 have HCU:=Lib.hid hcu
 clear hcu
 have hj0:=JK ht0 (show 1≤s.slot by omega)
 have hj1:=JK (show 0≤u - 1 by omega) (show 1≤s.slot by omega)
 have hj2:(u - 1) / s.slot < s.slots:=by
  refine Int.ediv_lt_of_lt_mul (by omega) ?_
  omega
 have e0:Int.tdiv t s.slot = t / s.slot:=Int.tdiv_eq_ediv_of_nonneg ht0
 have e1:Int.tdiv (u - 1) s.slot = (u - 1) / s.slot:=Int.tdiv_eq_ediv_of_nonneg (by omega)
 have hne:s.slot≠0:=by omega
 have hbq:(s.slot == 0) = false:=beq_eq_false_iff_ne.2 hne
 have HR:Hid (R8 s x layer t u = (qa (fI s x layer (t / s.slot) ((u - 1) / s.slot+1 - t / s.slot).toNat)).getD z31):=Lib.hid rfl
 generalize t / s.slot = j0 at*
 generalize (u - 1) / s.slot = j1 at*
 have hT0:=hT
 obtain ⟨A7,c7,A8,c8,mT,_⟩:=hT0
 refine (callsIn_wide (n:=6)).1 ?_
 refine callsIn_of_wp_marks Try.func70 rfl trivial ?_ rfl
 simp only [Try.ntmps70,List.size_toArray,List.length_cons,List.length_nil,Nat.reduceAdd,Nat.reduceSub,Array.replicate_succ,Array.replicate_zero,List.push_toArray,List.append_toArray,List.nil_append,List.cons_append]
 gi_wp2_with fail
 have mF:=aD mT
 have m5:aZ (((w.alloc (.cells #[.pointer (some ⟨b,0,none⟩)] 104)).alloc (.cells #[Z ab x.f0.f0,Z ab x.f0.f1,Z ab x.f1.f0,Z ab x.f1.f1] 31)).alloc (.cells #[Z ab 0,Z ab 0,Z ab 0,Z ab 0] 31)) (w.heap.size) #[.pointer (some ⟨b,0,none⟩)] 104:=(aa (aa aoM _) _)
 have m6:aZ (((w.alloc (.cells #[.pointer (some ⟨b,0,none⟩)] 104)).alloc (.cells #[Z ab x.f0.f0,Z ab x.f0.f1,Z ab x.f1.f0,Z ab x.f1.f1] 31)).alloc (.cells #[Z ab 0,Z ab 0,Z ab 0,Z ab 0] 31)) (w.heap.size+1) #[Z ab x.f0.f0,Z ab x.f0.f1,Z ab x.f1.f0,Z ab x.f1.f1] 31:=(aa aoN _)
 have m10:aZ (((w.alloc (.cells #[.pointer (some ⟨b,0,none⟩)] 104)).alloc (.cells #[Z ab x.f0.f0,Z ab x.f0.f1,Z ab x.f1.f0,Z ab x.f1.f1] 31)).alloc (.cells #[Z ab 0,Z ab 0,Z ab 0,Z ab 0] 31)) (w.heap.size+1+1) #[Z ab 0,Z ab 0,Z ab 0,Z ab 0] 31:=(by have h_:=bB ((w.alloc (.cells #[.pointer (some ⟨b,0,none⟩)] 104)).alloc (.cells #[Z ab x.f0.f0,Z ab x.f0.f1,Z ab x.f1.f0,Z ab x.f1.f1] 31)) (.cells #[Z ab 0,Z ab 0,Z ab 0,Z ab 0] 31);first|exact h_|(simp only [World.size_alloc] at h_;exact h_))
 replace mT:aZ (((w.alloc (.cells #[.pointer (some ⟨b,0,none⟩)] 104)).alloc (.cells #[Z ab x.f0.f0,Z ab x.f0.f1,Z ab x.f1.f0,Z ab x.f1.f1] 31)).alloc (.cells #[Z ab 0,Z ab 0,Z ab 0,Z ab 0] 31)) b #[Z ab s.nx,Z ab s.ny,Z ab s.cell,Z ab s.slot,Z ab s.slots,Z ab s.layers,Z ab s.most,.slice A7 s.shores.length c7,.slice A8 s.currents.length c8,Z ab v.speed,Z ab v.dive,Z ab v.use.f0,Z ab v.use.f1,Z ab v.drift.f0,Z ab v.drift.f1,Z ab v.reserve] 110:=(aa (aa (aa mT _) _) _)
 have mB:Below w.heap.size w (((w.alloc (.cells #[.pointer (some ⟨b,0,none⟩)] 104)).alloc (.cells #[Z ab x.f0.f0,Z ab x.f0.f1,Z ab x.f1.f0,Z ab x.f1.f1] 31)).alloc (.cells #[Z ab 0,Z ab 0,Z ab 0,Z ab 0] 31)):=(ai (ai (ai (Below.refl w.heap.size w) _) _) _)
 have dU:w.heap.size≤w.heap.size:=Nat.le_refl _
 generalize jq:(((w.alloc (.cells #[.pointer (some ⟨b,0,none⟩)] 104)).alloc (.cells #[Z ab x.f0.f0,Z ab x.f0.f1,Z ab x.f1.f0,Z ab x.f1.f1] 31)).alloc (.cells #[Z ab 0,Z ab 0,Z ab 0,Z ab 0] 31)) = W1 at mT m5 m6 m10 mB ⊢
 clear jq
 generalize hg5:w.heap.size = g5 at m5 m6 m10 ⊢
 have Fj:b≠g5:=by omega
 have Tp:g5≠b:=Fj.symm
 have Yd:w.heap.size≤g5:=by omega
 generalize Ye:g5+1 = g6 at m6 m10 ⊢
 have zC:b≠g6:=by omega
 have nI:g5≠g6:=by omega
 have PH:g6≠b:=zC.symm
 have iT:g6≠g5:=nI.symm
 have RB:w.heap.size≤g6:=by omega
 generalize Tq:g6+1 = g10 at m10 ⊢
 have LK:b≠g10:=by omega
 have jU:g5≠g10:=by omega
 have jA:g6≠g10:=by omega
 have adi:g10≠b:=LK.symm
 have Tt:g10≠g5:=jU.symm
 have LM:g10≠g6:=jA.symm
 have lZ:w.heap.size≤g10:=by omega
 clear dU mF
 try clear Tq
 try clear Ye
 try clear hg5
 have lC:w.heap.size≤W1.heap.size:=mB.size
 refine oN (wpIn_wide.2 ?_)
 replace mT:=au mT
 replace m5:=au m5
 replace m6:=au m6
 replace m10:=au m10
 replace mB:=bf mB
 have wq:wrap64 (s.nx*s.ny) = s.nx*s.ny:=by unfold wrap64;omega
 refine lh (n:=12) (S:=fun w'=>w'.cell? ⟨g5,0,none⟩ = some (.pointer (some ⟨b,0,none⟩))∧w'.cell? ⟨b,0,none⟩ = some (Z ab s.nx)∧w'.cell? ⟨b,1,none⟩ = some (Z ab s.ny)) (ds:=[]) #[al,al,al,al,al,al,al,al,al,al,al,al] aT rfl rfl ⟨((ae m5 0).trans rfl),((ae mT 0).trans rfl),((ae mT 1).trans rfl)⟩ (fun hHeld=>?_)
 generalize hWd:World.drew _ = Wx at mB mT m5 m6 m10 hHeld ⊢
 clear hWd
 refine iy (i:=0) (N:=some 17) aT hHeld ?_
 refine dG (i:=1) (N:=some 18) aT ?_
 refine dG (i:=2) (N:=some 19) aT ?_
 refine dG (i:=3) (N:=some 20) aT ?_
 refine iy (i:=4) (N:=some 21) aT hHeld ?_
 refine iy (i:=5) (N:=some 22) aT hHeld ?_
 refine dG (i:=6) (N:=some 23) aT ?_
 refine dG (i:=7) (N:=some 24) aT ?_
 refine dG (i:=8) (N:=some 25) aT ?_
 refine iy (i:=9) (N:=some 26) aT hHeld ?_
 refine dG (i:=10) (N:=some 27) aT ?_
 refine dG (i:=11) (N:=some 11) aT ?_
 refine ma aT ?_
 clear wq hHeld
 refine qo ?_
 have yn:=(ae m5 0).trans rfl
 have cT3:=(ae mT 3).trans rfl
 have cq:∀ o_,(Wx.alloc o_).cell? ⟨g5,0,none⟩ = some (.pointer (some ⟨b,0,none⟩)):=fun o_=>(ae (aa m5 o_) 0).trans rfl
 have cq3:∀ o_,(Wx.alloc o_).cell? ⟨b,3,none⟩ = some (Z ab s.slot):=fun o_=>(ae (aa mT o_) 3).trans rfl
 gi_wp2_with fail
 clear cq cq3 yn cT3
 have Yf:w.heap.size≤Wx.heap.size:=mB.size
 have mF:=aD mT
 have uj:=aD m5
 have rz:=aD m6
 have PI:=aD m10
 have m12:aZ (Wx.alloc (.cells #[.bool true] 4)) (Wx.heap.size) #[.bool true] 4:=(by have h_:=bB Wx (.cells #[.bool true] 4);first|exact h_|(simp only [World.size_alloc] at h_;exact h_))
 replace mT:aZ (Wx.alloc (.cells #[.bool true] 4)) b #[Z ab s.nx,Z ab s.ny,Z ab s.cell,Z ab s.slot,Z ab s.slots,Z ab s.layers,Z ab s.most,.slice A7 s.shores.length c7,.slice A8 s.currents.length c8,Z ab v.speed,Z ab v.dive,Z ab v.use.f0,Z ab v.use.f1,Z ab v.drift.f0,Z ab v.drift.f1,Z ab v.reserve] 110:=(aa mT _)
 replace m5:aZ (Wx.alloc (.cells #[.bool true] 4)) g5 #[.pointer (some ⟨b,0,none⟩)] 104:=(aa m5 _)
 replace m6:aZ (Wx.alloc (.cells #[.bool true] 4)) g6 #[Z ab x.f0.f0,Z ab x.f0.f1,Z ab x.f1.f0,Z ab x.f1.f1] 31:=(aa m6 _)
 replace m10:aZ (Wx.alloc (.cells #[.bool true] 4)) g10 #[Z ab 0,Z ab 0,Z ab 0,Z ab 0] 31:=(aa m10 _)
 replace mB:Below w.heap.size w (Wx.alloc (.cells #[.bool true] 4)):=(ai mB _)
 have dU:w.heap.size≤Wx.heap.size:=Yf
 generalize jq:(Wx.alloc (.cells #[.bool true] 4)) = W2 at mT m5 m6 m10 m12 mB ⊢
 clear jq
 generalize agN:Wx.heap.size = g12 at m12 ⊢
 have nM:b≠g12:=by omega
 have zD:g5≠g12:=by omega
 have lu:g6≠g12:=by omega
 have iA:g10≠g12:=by omega
 have Tu:g12≠b:=nM.symm
 have akB:g12≠g5:=zD.symm
 have akC:g12≠g6:=lu.symm
 have fO:g12≠g10:=iA.symm
 have Fp:w.heap.size≤g12:=by omega
 clear dU mF uj rz PI
 try clear agN
 have mY:w.heap.size≤W2.heap.size:=mB.size
 refine wpIn_loop (fun a W=>∃ (q:Nat) (j:Int) (Ds:List Nat) (u_:Nat→Value),a = { tmps:=#[(u_ 0),(u_ 1),Z ab layer,(u_ 3),Z ab u,.pointer (some ⟨g5,0,none⟩),.pointer (some ⟨g6,0,none⟩),(u_ 7),(u_ 8),(u_ 9),.pointer (some ⟨g10,0,none⟩),Z ab (s.nx*s.ny),.pointer (some ⟨g12,0,none⟩),Z ab j,(u_ 14),(u_ 15),(u_ 16),(u_ 17),(u_ 18),(u_ 19),(u_ 20),(u_ 21),(u_ 22),(u_ 23),(u_ 24),(u_ 25),(u_ 26),(u_ 27),(u_ 28),(u_ 29),(u_ 30),(u_ 31),(u_ 32),(u_ 33),(u_ 34),(u_ 35),(u_ 36),(u_ 37),(u_ 38),(u_ 39),(u_ 40),(u_ 41),(u_ 42),(u_ 43),(u_ 44),(u_ 45),(u_ 46),(u_ 47),(u_ 48),(u_ 49),(u_ 50),(u_ 51),(u_ 52),(u_ 53),(u_ 54),(u_ 55),(u_ 56),(u_ 57),(u_ 58),(u_ 59),(u_ 60),(u_ 61),(u_ 62),(u_ 63),(u_ 64),(u_ 65),(u_ 66),(u_ 67),(u_ 68),(u_ 69),(u_ 70),(u_ 71),(u_ 72),(u_ 73),(u_ 74),(u_ 75),(u_ 76),(u_ 77),(u_ 78),(u_ 79),(u_ 80),(u_ 81),(u_ 82),(u_ 83),(u_ 84),(u_ 85),(u_ 86),(u_ 87),(u_ 88),(u_ 89),(u_ 90),(u_ 91)],defers:=Ds.map mark }∧Hid (j = j0+(q:Int))∧q≤(j1+1 - j0).toNat∧Marks W w.heap.size Ds∧aZ W g5 #[.pointer (some ⟨b,0,none⟩)] 104∧aZ W g6 #[Z ab x.f0.f0,Z ab x.f0.f1,Z ab x.f1.f0,Z ab x.f1.f1] 31∧aZ W g10 #[Z ab (jP (fI s x layer j0 q)).f0.f0,Z ab (jP (fI s x layer j0 q)).f0.f1,Z ab (jP (fI s x layer j0 q)).f1.f0,Z ab (jP (fI s x layer j0 q)).f1.f1] 31∧aZ W g12 #[.bool (qa (fI s x layer j0 q)).isNone] 4∧Below w.heap.size w W) (fun a _=>(j1+1 - intOf (a.tmps.getD 13 undef)).toNat) ⟨0,j0,[],(fun k=>(#[.pointer (some ⟨b,0,none⟩),.agg #[Z ab x.f0.f0,Z ab x.f0.f1,Z ab x.f1.f0,Z ab x.f1.f1],Z ab layer,Z ab t,Z ab u,.pointer (some ⟨g5,0,none⟩),.pointer (some ⟨g6,0,none⟩),undef,undef,undef,.pointer (some ⟨g10,0,none⟩),Z ab (s.nx*s.ny),.pointer (some ⟨g12,0,none⟩),Z ab j0,undef,undef,undef,.pointer (some ⟨b,0,none⟩),.pointer (some ⟨b,0,none⟩),.pointer (some ⟨b,0,none⟩),.pointer (some ⟨b,0,none⟩),Z ab s.nx,.pointer (some ⟨b,0,none⟩),.pointer (some ⟨b,0,none⟩),.pointer (some ⟨b,0,none⟩),.pointer (some ⟨b,1,none⟩),Z ab s.ny,Z ab (wrap64 (s.nx*s.ny)),Z ab t,.pointer (some ⟨b,0,none⟩),.pointer (some ⟨b,0,none⟩),.pointer (some ⟨b,0,none⟩),.pointer (some ⟨b,3,none⟩),Z ab s.slot,Z ab j0,undef,undef,undef,undef,undef,undef,undef,undef,undef,undef,undef,undef,undef,undef,undef,undef,undef,undef,undef,undef,undef,undef,undef,undef,undef,undef,undef,undef,undef,undef,undef,undef,undef,undef,undef,undef,undef,undef,undef,undef,undef,undef,undef,undef,undef,undef,undef,undef,undef,undef,undef,undef,undef,undef,undef,undef,undef]:Array Value).getD k undef),rfl,Lib.hid (by omega),Nat.zero_le _,Marks.nil _ _,m5,m6,m10,m12,mB⟩ ?_
 clear m5 m6 m10 m12 mB mT
 rintro a_ W ⟨q,j,Ds,u_,rfl,HJ,hq,hM,m5,m6,m10,m12,mB⟩
 have akD:w.heap.size≤W.heap.size:=mB.size
 obtain ⟨A7,c7,A8,c8,mT,_,_,hc8,JL⟩:=hT.below mB
 have cT3:=(ae mT 3).trans rfl
 have cT5:=(ae mT 5).trans rfl
 have yn:=(ae m5 0).trans rfl
 have zF:∀ o_,(W.alloc o_).cell? ⟨g6,0,none⟩ = some (Z ab x.f0.f0):=fun o_=>(ae (aa m6 o_) 0).trans rfl
 have JM:∀ o_,(W.alloc o_).cell? ⟨g6,1,none⟩ = some (Z ab x.f0.f1):=fun o_=>(ae (aa m6 o_) 1).trans rfl
 have JN:∀ o_,(W.alloc o_).cell? ⟨g6,2,none⟩ = some (Z ab x.f1.f0):=fun o_=>(ae (aa m6 o_) 2).trans rfl
 have JO:∀ o_,(W.alloc o_).cell? ⟨g6,3,none⟩ = some (Z ab x.f1.f1):=fun o_=>(ae (aa m6 o_) 3).trans rfl
 have zG:∀ o_,(W.alloc o_).cell? ⟨g5,0,none⟩ = some (.pointer (some ⟨b,0,none⟩)):=fun o_=>(ae (aa m5 o_) 0).trans rfl
 have hjj:j0≤j:=by have:=HJ.out;omega
 by_cases hlt:j≤j1
 case neg =>
  have hqe:q = (j1+1 - j0).toNat:=by have:=HJ.out;omega
  have HQ:=Lib.hid hqe
  clear hqe zG zF JM JN JO
  have HRR:=HR.out
  rw [← HQ.out] at HRR
  have HR2:=Lib.hid HRR
  clear HRR
  generalize (fI s x layer j0 q) = L at*
  have uU:=(ae m10 0).trans rfl
  have Yg:=aK m10 0
  have uV:=(ae m10 1).trans rfl
  have Yh:=aK m10 1
  have uW:=(ae m10 2).trans rfl
  have Yi:=aK m10 2
  have uX:=(ae m10 3).trans rfl
  have Yj:=aK m10 3
  skip
  gi_wp2
  exact iV (fun X=>aZ X g10 #[Z ab (jP L).f0.f0,Z ab (jP L).f0.f1,Z ab (jP L).f1.f0,Z ab (jP L).f1.f1] 31∧Below w.heap.size w X) (fun X D_ h hB hD=>⟨(World.putObj_heap_other (fun e=>by have h1:=h.1;unfold aZ at h1;rw [e,hD] at h1;cases h1)).trans h.1,h.2.trans (belowK_b (w:=w) (Nat.le_refl _) X D_ _ _ hB hD rfl rfl)⟩) (fun X h=>⟨_,results_cell_row rfl _ _ g10 31 #[Z ab (jP L).f0.f0,Z ab (jP L).f0.f1,Z ab (jP L).f1.f0,Z ab (jP L).f1.f1] (0,0) _ rfl h.1 Try.underlying31 rfl aT,by rw [HR2.out];rfl,h.2⟩) Ds _ (Marks.set (Marks.set (Marks.set (Marks.set hM m10 (i:=0) _) (az m10 0 (Z ab (jP L).f0.f0) rfl) (i:=1) _) (az (az m10 0 (Z ab (jP L).f0.f0) rfl) 1 (Z ab (jP L).f0.f1) rfl) (i:=2) _) (az (az (az m10 0 (Z ab (jP L).f0.f0) rfl) 1 (Z ab (jP L).f0.f1) rfl) 2 (Z ab (jP L).f1.f0) rfl) (i:=3) _) ⟨(az (az (az (az m10 0 (Z ab (jP L).f0.f0) rfl) 1 (Z ab (jP L).f0.f1) rfl) 2 (Z ab (jP L).f1.f0) rfl) 3 (Z ab (jP L).f1.f1) rfl),(Below.setCell (p:=⟨g10,3,none⟩) (Below.setCell (p:=⟨g10,2,none⟩) (Below.setCell (p:=⟨g10,1,none⟩) (Below.setCell (p:=⟨g10,0,none⟩) mB lZ _) lZ _) lZ _) lZ _)⟩
 case pos =>
  skip
  have hq2:q+1≤(j1+1 - j0).toNat:=by have:=HJ.out;omega
  have HJ2:Hid (j+1 = j0+((q+1:Nat):Int)):=Lib.hid (by have:=HJ.out;omega)
  have p1:=jy (show 0≤j by omega) (show j≤15 by omega) (show 0≤s.layers by omega) hla.2
  have p2:=jy (show 0≤j*s.layers+layer by omega) (show j*s.layers+layer≤50 by omega) hxy.1 hxy.2
  gi_wp2_with fail
  refine ⟨trivial,(callsIn_wide.2 (K3 _ _ _)).mono ?_⟩
  rintro e W_ ⟨rfl,rfl⟩
  gi_wp2_with fail
  clear cT3 cT5 yn zG zF JM JN JO
  have aJR:=hS.nx
  have hM0:Marks (((W.alloc (.cells #[Z ab ((j*s.layers+layer)*(s.nx*s.ny))] 3)).alloc (.cells #[.pointer (some ⟨b,0,none⟩)] 104)).alloc (.cells #[Z ab x.f0.f0,Z ab x.f0.f1,Z ab x.f1.f0,Z ab x.f1.f1] 31)) w.heap.size Ds:=hM.below (ai (ai (ai (Below.refl _ W) _) _) _)
  have mF:=aD mT
  have uj:=aD m5
  have rz:=aD m6
  have PI:=aD m10
  have FX:=aD m12
  have m14:aZ (((W.alloc (.cells #[Z ab ((j*s.layers+layer)*(s.nx*s.ny))] 3)).alloc (.cells #[.pointer (some ⟨b,0,none⟩)] 104)).alloc (.cells #[Z ab x.f0.f0,Z ab x.f0.f1,Z ab x.f1.f0,Z ab x.f1.f1] 31)) (W.heap.size) #[Z ab ((j*s.layers+layer)*(s.nx*s.ny))] 3:=(aa (aa (by have h_:=bB W (.cells #[Z ab ((j*s.layers+layer)*(s.nx*s.ny))] 3);first|exact h_|(simp only [World.size_alloc] at h_;exact h_)) _) _)
  have mP:aZ (((W.alloc (.cells #[Z ab ((j*s.layers+layer)*(s.nx*s.ny))] 3)).alloc (.cells #[.pointer (some ⟨b,0,none⟩)] 104)).alloc (.cells #[Z ab x.f0.f0,Z ab x.f0.f1,Z ab x.f1.f0,Z ab x.f1.f1] 31)) (W.heap.size+1) #[.pointer (some ⟨b,0,none⟩)] 104:=(aa (by have h_:=bB (W.alloc (.cells #[Z ab ((j*s.layers+layer)*(s.nx*s.ny))] 3)) (.cells #[.pointer (some ⟨b,0,none⟩)] 104);first|exact h_|(simp only [World.size_alloc] at h_;exact h_)) _)
  have mX:aZ (((W.alloc (.cells #[Z ab ((j*s.layers+layer)*(s.nx*s.ny))] 3)).alloc (.cells #[.pointer (some ⟨b,0,none⟩)] 104)).alloc (.cells #[Z ab x.f0.f0,Z ab x.f0.f1,Z ab x.f1.f0,Z ab x.f1.f1] 31)) (W.heap.size+1+1) #[Z ab x.f0.f0,Z ab x.f0.f1,Z ab x.f1.f0,Z ab x.f1.f1] 31:=(by have h_:=bB ((W.alloc (.cells #[Z ab ((j*s.layers+layer)*(s.nx*s.ny))] 3)).alloc (.cells #[.pointer (some ⟨b,0,none⟩)] 104)) (.cells #[Z ab x.f0.f0,Z ab x.f0.f1,Z ab x.f1.f0,Z ab x.f1.f1] 31);first|exact h_|(simp only [World.size_alloc] at h_;exact h_))
  replace mT:aZ (((W.alloc (.cells #[Z ab ((j*s.layers+layer)*(s.nx*s.ny))] 3)).alloc (.cells #[.pointer (some ⟨b,0,none⟩)] 104)).alloc (.cells #[Z ab x.f0.f0,Z ab x.f0.f1,Z ab x.f1.f0,Z ab x.f1.f1] 31)) b #[Z ab s.nx,Z ab s.ny,Z ab s.cell,Z ab s.slot,Z ab s.slots,Z ab s.layers,Z ab s.most,.slice A7 s.shores.length c7,.slice A8 s.currents.length c8,Z ab v.speed,Z ab v.dive,Z ab v.use.f0,Z ab v.use.f1,Z ab v.drift.f0,Z ab v.drift.f1,Z ab v.reserve] 110:=(aa (aa (aa mT _) _) _)
  replace m5:aZ (((W.alloc (.cells #[Z ab ((j*s.layers+layer)*(s.nx*s.ny))] 3)).alloc (.cells #[.pointer (some ⟨b,0,none⟩)] 104)).alloc (.cells #[Z ab x.f0.f0,Z ab x.f0.f1,Z ab x.f1.f0,Z ab x.f1.f1] 31)) g5 #[.pointer (some ⟨b,0,none⟩)] 104:=(aa (aa (aa m5 _) _) _)
  replace m6:aZ (((W.alloc (.cells #[Z ab ((j*s.layers+layer)*(s.nx*s.ny))] 3)).alloc (.cells #[.pointer (some ⟨b,0,none⟩)] 104)).alloc (.cells #[Z ab x.f0.f0,Z ab x.f0.f1,Z ab x.f1.f0,Z ab x.f1.f1] 31)) g6 #[Z ab x.f0.f0,Z ab x.f0.f1,Z ab x.f1.f0,Z ab x.f1.f1] 31:=(aa (aa (aa m6 _) _) _)
  replace m10:aZ (((W.alloc (.cells #[Z ab ((j*s.layers+layer)*(s.nx*s.ny))] 3)).alloc (.cells #[.pointer (some ⟨b,0,none⟩)] 104)).alloc (.cells #[Z ab x.f0.f0,Z ab x.f0.f1,Z ab x.f1.f0,Z ab x.f1.f1] 31)) g10 #[Z ab (jP (fI s x layer j0 q)).f0.f0,Z ab (jP (fI s x layer j0 q)).f0.f1,Z ab (jP (fI s x layer j0 q)).f1.f0,Z ab (jP (fI s x layer j0 q)).f1.f1] 31:=(aa (aa (aa m10 _) _) _)
  replace m12:aZ (((W.alloc (.cells #[Z ab ((j*s.layers+layer)*(s.nx*s.ny))] 3)).alloc (.cells #[.pointer (some ⟨b,0,none⟩)] 104)).alloc (.cells #[Z ab x.f0.f0,Z ab x.f0.f1,Z ab x.f1.f0,Z ab x.f1.f1] 31)) g12 #[.bool (qa (fI s x layer j0 q)).isNone] 4:=(aa (aa (aa m12 _) _) _)
  replace mB:Below w.heap.size w (((W.alloc (.cells #[Z ab ((j*s.layers+layer)*(s.nx*s.ny))] 3)).alloc (.cells #[.pointer (some ⟨b,0,none⟩)] 104)).alloc (.cells #[Z ab x.f0.f0,Z ab x.f0.f1,Z ab x.f1.f0,Z ab x.f1.f1] 31)):=(ai (ai (ai mB _) _) _)
  have dU:w.heap.size≤W.heap.size:=akD
  generalize jq:(((W.alloc (.cells #[Z ab ((j*s.layers+layer)*(s.nx*s.ny))] 3)).alloc (.cells #[.pointer (some ⟨b,0,none⟩)] 104)).alloc (.cells #[Z ab x.f0.f0,Z ab x.f0.f1,Z ab x.f1.f0,Z ab x.f1.f1] 31)) = W0 at mT m5 m6 m10 m12 m14 mP mX mB hM0 ⊢
  clear jq
  generalize Tv:W.heap.size = g14 at m14 mP mX ⊢
  have lv:b≠g14:=by omega
  have vO:g5≠g14:=by omega
  have uE:g6≠g14:=by omega
  have Yk:g10≠g14:=by omega
  have Yl:g12≠g14:=by omega
  have vP:g14≠b:=lv.symm
  have jk:g14≠g5:=vO.symm
  have Tw:g14≠g6:=uE.symm
  have mZ:g14≠g10:=Yk.symm
  have yo:g14≠g12:=Yl.symm
  have afO:w.heap.size≤g14:=by omega
  generalize hgP:g14+1 = gP at mP mX ⊢
  have PK:b≠gP:=by omega
  have JP:g5≠gP:=by omega
  have BZ:g6≠gP:=by omega
  have adj:g10≠gP:=by omega
  have adk:g12≠gP:=by omega
  have FY:g14≠gP:=by omega
  have abo:gP≠b:=PK.symm
  have Tx:gP≠g5:=JP.symm
  have PL:gP≠g6:=BZ.symm
  have pQ:gP≠g10:=adj.symm
  have Dp:gP≠g12:=adk.symm
  have zH:gP≠g14:=FY.symm
  have hGP:w.heap.size≤gP:=by omega
  generalize hgX:gP+1 = gX at mX ⊢
  have JQ:b≠gX:=by omega
  have agO:g5≠gX:=by omega
  have agP:g6≠gX:=by omega
  have adl:g10≠gX:=by omega
  have adm:g12≠gX:=by omega
  have zI:g14≠gX:=by omega
  have Tg:gP≠gX:=by omega
  have PM:gX≠b:=JQ.symm
  have aoW:gX≠g5:=agO.symm
  have aoX:gX≠g6:=agP.symm
  have pR:gX≠g10:=adl.symm
  have Dq:gX≠g12:=adm.symm
  have zJ:gX≠g14:=zI.symm
  have agJ:gX≠gP:=Tg.symm
  have hGX:w.heap.size≤gX:=by omega
  clear dU mF uj rz PI FX
  try clear hgX
  try clear hgP
  try clear Tv
  have pI:w.heap.size≤W0.heap.size:=mB.size
  have hDs:∀ D_ ∈ Ds,D_ < W0.heap.size:=fun D_ h=>(Array.getElem?_eq_some_iff.1 (hM0.2 D_ h).2).1
  have HN:Hid (g5≠g10∧g5≠g12∧g6≠g10∧g6≠g12∧g14≠g10∧g14≠g12∧g10≠g12∧g12≠g10∧gP≠g10∧gX≠g10∧gP≠g12∧gX≠g12):=Lib.hid ⟨jU,zD,jA,lu,mZ,yo,iA,fO,pQ,pR,Dp,Dq⟩
  try clear Fj zC LK nM lv
  try clear PK
  try clear JQ
  try clear Tp
  try clear nI jU zD vO
  try clear JP
  try clear agO
  try clear PH
  try clear iT jA lu uE
  try clear BZ
  try clear agP
  try clear adi
  try clear Tt LM iA Yk
  try clear adj
  try clear adl
  try clear Tu
  try clear akB akC fO Yl
  try clear adk
  try clear adm
  try clear vP
  try clear jk Tw mZ yo
  try clear FY
  try clear zI
  try clear abo
  try clear Tx PL pQ Dp zH
  try clear Tg
  try clear PM
  try clear aoW aoX pR Dq zJ
  try clear agJ
  refine wpIn_rangeFunc_ownH rfl (by omega) (gf:=135) (lb:=#[.pointer (some ⟨gP,0,none⟩),.pointer (some ⟨gX,0,none⟩)]) rfl trivial (enters_of Try.func135 aT rfl)
   (encs:=fun c:yl s=>#[Z ab c.1]) (Kp:=EZ w gP gX b x) (S:=agF s x) (Sp:=aky s x) (N:=(pg s x).length) (w0:=W0)
   (fun l J Jx X_ hW hJ _ hY h0=>K6 5 (by omega) l gP gX w b s v x hT hS hx (EZ w gP gX b x) (fun A B h hE=>⟨hE.1.trans h.1,h.2.1 hE.2.1,h.2.2 hE.2.2⟩) J Jx hY (fun f X Y h hB=>hJ f X Y none h ⟨hB.os,hB.tape,hB.output,hB.size,fun k hk _=>hB.block k hk⟩ (fun r e=>by cases e)) X_ ⟨aJ mB hW,aZ.qm mP hW,aZ.qm mX hW⟩ h0) EZ.trans (EZ.put pI (aD mP) (aD mX)) (Below.refl _ _) (fun _=>rfl)
   (fun pre W=>aZ W g5 #[.pointer (some ⟨b,0,none⟩)] 104∧aZ W g6 #[Z ab x.f0.f0,Z ab x.f0.f1,Z ab x.f1.f0,Z ab x.f1.f1] 31∧aZ W g14 #[Z ab ((j*s.layers+layer)*(s.nx*s.ny))] 3∧aZ W g10 #[Z ab (jP (fI s x layer j0 q++(pre.map fun c=>uT s layer j c.1))).f0.f0,Z ab (jP (fI s x layer j0 q++(pre.map fun c=>uT s layer j c.1))).f0.f1,Z ab (jP (fI s x layer j0 q++(pre.map fun c=>uT s layer j c.1))).f1.f0,Z ab (jP (fI s x layer j0 q++(pre.map fun c=>uT s layer j c.1))).f1.f1] 31∧aZ W g12 #[.bool (qa (fI s x layer j0 q++(pre.map fun c=>uT s layer j c.1))).isNone] 4∧Marks W w.heap.size Ds∧Below w.heap.size w W)
   (fun c pre W=>False)
   (OwnFrom.and (dV _ _ (fun _=>_) _) (OwnFrom.and (dV _ _ (fun _=>_) _) (OwnFrom.and (dV _ _ (fun _=>_) _) (OwnFrom.and (dV _ _ (fun pre:List (yl s)=>#[Z ab (jP (fI s x layer j0 q++(pre.map fun c=>uT s layer j c.1))).f0.f0,Z ab (jP (fI s x layer j0 q++(pre.map fun c=>uT s layer j c.1))).f0.f1,Z ab (jP (fI s x layer j0 q++(pre.map fun c=>uT s layer j c.1))).f1.f0,Z ab (jP (fI s x layer j0 q++(pre.map fun c=>uT s layer j c.1))).f1.f1]) _) (OwnFrom.and (dV _ _ (fun pre:List (yl s)=>#[.bool (qa (fI s x layer j0 q++(pre.map fun c=>uT s layer j c.1))).isNone]) _) (OwnFrom.and (xR _ _ Ds hDs) (ownFrom_below (by omega) (by omega))))))))
   (fun c pre X Y row hs hg hr=>hs)
   ⟨m5,m6,m14,by rw [List.map_nil,List.append_nil];exact m10,by rw [List.map_nil,List.append_nil];exact m12,hM0,mB⟩
   (fun c a' W=>∃ u_:Nat→Value,a' = { tmps:=#[(u_ 0),(u_ 1),(u_ 2),(u_ 3),(u_ 4),.pointer (some ⟨g5,0,none⟩),(u_ 6),(u_ 7),(u_ 8),(u_ 9),.pointer (some ⟨g10,0,none⟩),(u_ 11),.pointer (some ⟨g12,0,none⟩),(u_ 13),.pointer (some ⟨g14,0,none⟩),Z ab c.1,(u_ 16),(u_ 17),(u_ 18),(u_ 19),(u_ 20),(u_ 21),(u_ 22),(u_ 23),(u_ 24),(u_ 25),(u_ 26),(u_ 27),(u_ 28),(u_ 29),(u_ 30),(u_ 31),(u_ 32),(u_ 33),(u_ 34),(u_ 35),(u_ 36),(u_ 37),(u_ 38),(u_ 39),(u_ 40),(u_ 41),(u_ 42),(u_ 43),(u_ 44),(u_ 45),(u_ 46),(u_ 47),(u_ 48),(u_ 49),(u_ 50),(u_ 51),(u_ 52),(u_ 53),(u_ 54),(u_ 55),(u_ 56),(u_ 57),(u_ 58),(u_ 59),(u_ 60),(u_ 61),(u_ 62),(u_ 63),(u_ 64),(u_ 65),(u_ 66),(u_ 67),(u_ 68),(u_ 69),(u_ 70),(u_ 71),(u_ 72),(u_ 73),(u_ 74),(u_ 75),(u_ 76),(u_ 77),(u_ 78),(u_ 79),(u_ 80),(u_ 81),(u_ 82),(u_ 83),(u_ 84),(u_ 85),(u_ 86),(u_ 87),(u_ 88),(u_ 89),(u_ 90),(u_ 91)],defers:=[] })
   (fun c a' s X Y row hs hg hr=>hs) ?assign ?body ?done ?stop
  case assign =>
   rintro l pre c X_ K hI hK
   gi_wp2
   exact hK _ _ ((KeepsOthers.refl X_).from _) (EZ.below hI.2.2.2.2.2.2.size (Below.refl _ _)) hI ⟨(fun k=>(#[(u_ 0),(u_ 1),Z ab layer,(u_ 3),Z ab u,.pointer (some ⟨g5,0,none⟩),.pointer (some ⟨g6,0,none⟩),(u_ 7),(u_ 8),(u_ 9),.pointer (some ⟨g10,0,none⟩),Z ab (s.nx*s.ny),.pointer (some ⟨g12,0,none⟩),Z ab j,.pointer (some ⟨g14,0,none⟩),Z ab c.1,(u_ 16),(u_ 17),(u_ 18),(u_ 19),(u_ 20),(u_ 21),(u_ 22),(u_ 23),(u_ 24),(u_ 25),(u_ 26),(u_ 27),(u_ 28),(u_ 29),(u_ 30),(u_ 31),(u_ 32),(u_ 33),(u_ 34),Z ab j,Z ab u,Z ab (u - 1),.pointer (some ⟨b,0,none⟩),.pointer (some ⟨b,0,none⟩),.pointer (some ⟨b,0,none⟩),.pointer (some ⟨b,3,none⟩),Z ab s.slot,Z ab j1,.bool true,(u_ 45),(u_ 46),Z ab j,.pointer (some ⟨b,0,none⟩),.pointer (some ⟨b,0,none⟩),.pointer (some ⟨b,0,none⟩),.pointer (some ⟨b,5,none⟩),Z ab s.layers,Z ab (j*s.layers),Z ab layer,Z ab (j*s.layers+layer),Z ab (s.nx*s.ny),Z ab ((j*s.layers+layer)*(s.nx*s.ny)),.pointer (some ⟨b,0,none⟩),.agg #[Z ab x.f0.f0,Z ab x.f0.f1,Z ab x.f1.f0,Z ab x.f1.f1],.func (.func 135) #[] #[.pointer (some ⟨gP,0,none⟩),.pointer (some ⟨gX,0,none⟩)],Z ab c.1,(u_ 62),(u_ 63),(u_ 64),(u_ 65),(u_ 66),(u_ 67),(u_ 68),(u_ 69),(u_ 70),(u_ 71),(u_ 72),(u_ 73),(u_ 74),(u_ 75),(u_ 76),(u_ 77),(u_ 78),(u_ 79),(u_ 80),(u_ 81),(u_ 82),(u_ 83),(u_ 84),(u_ 85),(u_ 86),(u_ 87),(u_ 88),(u_ 89),(u_ 90),(u_ 91)]:Array Value).getD k undef),rfl⟩
  case stop =>
   rintro D_ c pre X_ hD hp h hK
   exact h.elim
  case done =>
   rintro D_ xs X_ hD hxs ⟨m5,m6,m14,m10,m12,hM,mB⟩ hK
   have hL:fI s x layer j0 q++xs.map (fun c=>uT s layer j c.1) = fI s x layer j0 (q+1):=by rw [Yb];unfold slotL;rw [← (show xs.map Subtype.val = pg s x from hxs),List.map_map,← HJ.out];rfl
   rw [hL] at m10 m12
   clear hL
   have hM2:=hM.cons (fun h=>absurd (hDs D_ h) (Nat.not_lt.2 hD)) (Nat.le_trans pI hD) hK
   gi_wp2
   skip
   exact ⟨⟨q+1,j+1,D_ :: Ds,(fun k=>(#[(u_ 0),(u_ 1),Z ab layer,(u_ 3),Z ab u,.pointer (some ⟨g5,0,none⟩),.pointer (some ⟨g6,0,none⟩),(u_ 7),(u_ 8),(u_ 9),.pointer (some ⟨g10,0,none⟩),Z ab (s.nx*s.ny),.pointer (some ⟨g12,0,none⟩),Z ab (j+1),.pointer (some ⟨g14,0,none⟩),(u_ 15),(u_ 16),(u_ 17),(u_ 18),(u_ 19),(u_ 20),(u_ 21),(u_ 22),(u_ 23),(u_ 24),(u_ 25),(u_ 26),(u_ 27),(u_ 28),(u_ 29),(u_ 30),(u_ 31),(u_ 32),(u_ 33),(u_ 34),Z ab j,Z ab u,Z ab (u - 1),.pointer (some ⟨b,0,none⟩),.pointer (some ⟨b,0,none⟩),.pointer (some ⟨b,0,none⟩),.pointer (some ⟨b,3,none⟩),Z ab s.slot,Z ab j1,.bool true,Z ab j,Z ab (j+1),Z ab j,.pointer (some ⟨b,0,none⟩),.pointer (some ⟨b,0,none⟩),.pointer (some ⟨b,0,none⟩),.pointer (some ⟨b,5,none⟩),Z ab s.layers,Z ab (j*s.layers),Z ab layer,Z ab (j*s.layers+layer),Z ab (s.nx*s.ny),Z ab ((j*s.layers+layer)*(s.nx*s.ny)),.pointer (some ⟨b,0,none⟩),.agg #[Z ab x.f0.f0,Z ab x.f0.f1,Z ab x.f1.f0,Z ab x.f1.f1],.func (.func 135) #[] #[.pointer (some ⟨gP,0,none⟩),.pointer (some ⟨gX,0,none⟩)],(u_ 61),(u_ 62),(u_ 63),(u_ 64),(u_ 65),(u_ 66),(u_ 67),(u_ 68),(u_ 69),(u_ 70),(u_ 71),(u_ 72),(u_ 73),(u_ 74),(u_ 75),(u_ 76),(u_ 77),(u_ 78),(u_ 79),(u_ 80),(u_ 81),(u_ 82),(u_ 83),(u_ 84),(u_ 85),(u_ 86),(u_ 87),(u_ 88),(u_ 89),(u_ 90),(u_ 91)]:Array Value).getD k undef),rfl,HJ2,hq2,hM2,m5,m6,m10,m12,mB⟩,by simp [intOf];omega⟩
  case body =>
   skip
   rintro l pre c a_ X_ hlW ⟨r,hr⟩ ⟨m5,m6,m14,m10,m12,hM,mB⟩ ⟨u_,rfl⟩ hlen
   have hXs:W0.heap.size≤X_.heap.size:=Nat.le_trans hlW (Nat.le_of_lt (aD hr))
   clear hr
   have hN:Below X_.heap.size X_ X_:=Below.refl _ _
   obtain ⟨A7,c7,A8,c8,mT,_,_,hc8,JL⟩:=hT.below mB
   have hidx:=agM (q:=j) (l:=layer) (k:=s.nx*s.ny) (c:=c.1) (ll:=s.slots) (kk:=s.layers) (by omega) (by omega) hl0 hl1 c.2.1 c.2.2
   rw [← HCU.out] at hidx
   have HY:Hid (uT s layer j c.1 = ⟨(bQ s.currents ((j*s.layers+layer)*(s.nx*s.ny)+c.1)).f0,(bQ s.currents ((j*s.layers+layer)*(s.nx*s.ny)+c.1)).f1⟩):=Lib.hid rfl
   obtain ⟨hi0,hi1⟩:=hidx
   obtain ⟨ad,e_,hy0,hy1,hy2,hy3⟩:=Fq JL _ hi0 hi1
   cases e_
   clear JL
   generalize bQ s.currents ((j*s.layers+layer)*(s.nx*s.ny)+c.1) = y at*
   generalize (j*s.layers+layer)*(s.nx*s.ny) = R at*
   have wR:wrap64 (R+c.1) = R+c.1:=by unfold wrap64;have:=c.2;omega
   have hm0:qa (fI s x layer j0 q++(pre.map fun c=>uT s layer j c.1)) = qa (fI s x layer j0 q++(pre.map fun c=>uT s layer j c.1)):=rfl
   generalize aqS:(fI s x layer j0 q++(pre.map fun c=>uT s layer j c.1)) = L at*
   have hLL:=Lib.hid aqS
   clear hm0 aqS
   gi_wp2_with fail
   replace mT:=au mT
   replace m5:=au m5
   replace m6:=au m6
   replace m10:=au m10
   replace m12:=au m12
   replace m14:=au m14
   replace mB:=bf mB
   replace hy0:=((bf (Below.refl X_.heap.size X_)).cell (World.block_lt_of_cell? X_ _ hy0)).trans hy0
   replace hy1:=((bf (Below.refl X_.heap.size X_)).cell (World.block_lt_of_cell? X_ _ hy1)).trans hy1
   replace hy2:=((bf (Below.refl X_.heap.size X_)).cell (World.block_lt_of_cell? X_ _ hy2)).trans hy2
   replace hy3:=((bf (Below.refl X_.heap.size X_)).cell (World.block_lt_of_cell? X_ _ hy3)).trans hy3
   replace hM:=hM.below (bf (Below.refl _ X_))
   replace hN:=bf hN
   refine Ca (m:=25) (S:=fun w'=>w'.cell? ⟨g5,0,none⟩ = some (.pointer (some ⟨b,0,none⟩))∧w'.cell? ⟨g14,0,none⟩ = some (Z ab R)∧w'.cell? ⟨b,8,none⟩ = some (.slice (some ad) s.currents.length c8)∧w'.cell? (ad.add ((R+c.1).toNat*4)) = some (Z ab y.f0.f0)∧w'.cell? ⟨(ad.add ((R+c.1).toNat*4)).block,(ad.add ((R+c.1).toNat*4)).off+1,none⟩ = some (Z ab y.f0.f1)∧w'.cell? ⟨(ad.add ((R+c.1).toNat*4)).block,(ad.add ((R+c.1).toNat*4)).off+2,none⟩ = some (Z ab y.f1.f0)∧w'.cell? ⟨(ad.add ((R+c.1).toNat*4)).block,(ad.add ((R+c.1).toNat*4)).off+3,none⟩ = some (Z ab y.f1.f1)) (ds:=[24]) #[al,al,al,al,al,al,al,al,al,al,al,al,al,al,al,al,al,al,al,al,al,al,al,al,al] aT (FZ (uk zK)) aT rfl rfl ⟨((ae m5 0).trans rfl),((ae m14 0).trans rfl),((ae mT 8).trans rfl),hy0,hy1,hy2,hy3⟩ (fun hHeld=>?_)
   generalize hWd:World.drew _ = Wx at mB mT m5 m6 m10 m12 m14 hM hN hy0 hy1 hy2 hy3 hHeld ⊢
   clear hWd
   refine dG (i:=6) (N:=some 68) aT ?_
   refine dG (i:=17) (N:=some 79) aT ?_
   refine iy (i:=0) (N:=some 62) aT hHeld ?_
   refine dG (i:=1) (N:=some 63) aT ?_
   refine dG (i:=2) (N:=some 64) aT ?_
   refine dG (i:=3) (N:=some 65) aT ?_
   refine iy (i:=4) (N:=some 66) aT hHeld ?_
   refine iy (i:=5) (N:=some 67) aT hHeld ?_
   refine dG (i:=7) (N:=some 69) aT ?_
   refine dG (i:=8) (N:=some 70) aT ?_
   refine dG (i:=9) (N:=some 71) aT ?_
   refine iy (i:=10) (N:=some 72) aT hHeld ?_
   refine iy (i:=11) (N:=some 73) aT hHeld ?_
   refine dG (i:=12) (N:=some 74) aT ?_
   refine dG (i:=13) (N:=some 75) aT ?_
   refine dG (i:=14) (N:=some 76) aT ?_
   refine iy (i:=15) (N:=some 77) aT hHeld ?_
   refine iy (i:=16) (N:=some 78) aT hHeld ?_
   refine dG (i:=18) (N:=some 80) aT ?_
   refine dG (i:=19) (N:=some 81) aT ?_
   refine dG (i:=20) (N:=some 82) aT ?_
   refine iy (i:=21) (N:=some 83) aT hHeld ?_
   refine dG (i:=22) (N:=some 84) aT ?_
   refine jC (i:=23) (N:=some 16) #[ac,ac,ac,ac,ac,ac,ac,ac,ac,ac,ac,ac,ac,ac,ac,ac,ac,ac,ac,ac,ac,ac,ac,ac,al] rfl rfl aT (by decide) (fun K hK=>?_)
   refine zL (w1:=?_) (v:=?_) (by rfl) rfl ?_ ?_
   rotate_left 2
   ·go_simp
    constructor
    ·rfl
    ·rfl
   refine hK.out _ _ ⟨((ae (aa m5 (.cells #[Z ab 0,Z ab 0,Z ab 0,Z ab 0] 31)) 0).trans rfl),((ae (aa m14 (.cells #[Z ab 0,Z ab 0,Z ab 0,Z ab 0] 31)) 0).trans rfl),((ae (aa mT (.cells #[Z ab 0,Z ab 0,Z ab 0,Z ab 0] 31)) 8).trans rfl),((ai (Below.refl Wx.heap.size Wx) (.cells #[Z ab 0,Z ab 0,Z ab 0,Z ab 0] 31)).cell (World.block_lt_of_cell? Wx _ hy0)).trans hy0,((ai (Below.refl Wx.heap.size Wx) (.cells #[Z ab 0,Z ab 0,Z ab 0,Z ab 0] 31)).cell (World.block_lt_of_cell? Wx _ hy1)).trans hy1,((ai (Below.refl Wx.heap.size Wx) (.cells #[Z ab 0,Z ab 0,Z ab 0,Z ab 0] 31)).cell (World.block_lt_of_cell? Wx _ hy2)).trans hy2,((ai (Below.refl Wx.heap.size Wx) (.cells #[Z ab 0,Z ab 0,Z ab 0,Z ab 0] 31)).cell (World.block_lt_of_cell? Wx _ hy3)).trans hy3⟩ (fun hHeld=>?_)
   clear hK K
   refine dY afP ?_
   refine yt (i:=24) (N:=none) #[ac,ac,ac,ac,ac,ac,ac,ac,ac,ac,ac,ac,ac,ac,ac,ac,ac,ac,ac,ac,ac,ac,ac,ac,ac] rfl rfl aT (by decide) (fun K hK=>?_)
   have FQ:=bB Wx (.cells #[Z ab 0,Z ab 0,Z ab 0,Z ab 0] 31)
   have Cb:=aK FQ 0
   have Fs:=aK FQ 1
   have Ty:=aK FQ 2
   have Tz:=aK FQ 3
   have zM:=(ae FQ 0).trans rfl
   have Fu:=(ae FQ 1).trans rfl
   have TA:=(ae FQ 2).trans rfl
   have TB:=(ae FQ 3).trans rfl
   refine qp (w1:=?_) (by rfl) rfl ?_ ?_
   rotate_left
   ·go_simp
    rfl
   refine hK.out _ _ ?_
   clear hK K
   refine ma aT ?_
   try clear hHeld
   skip
   clear hy0 hy1 hy2 hy3 wR
   have Yf:w.heap.size≤Wx.heap.size:=mB.size
   have F3:W0.heap.size≤Wx.heap.size:=Nat.le_trans hXs hN.size
   replace hM:=hM.below (ai (Below.refl _ Wx) (.cells #[Z ab y.f0.f0,Z ab y.f0.f1,Z ab y.f1.f0,Z ab y.f1.f1] 31))
   replace hN:=aJ hN (ai (Below.refl _ Wx) (.cells #[Z ab y.f0.f0,Z ab y.f0.f1,Z ab y.f1.f0,Z ab y.f1.f1] 31))
   have mF:=aD mT
   have uj:=aD m5
   have rz:=aD m6
   have PI:=aD m10
   have FX:=aD m12
   have yu:=aD m14
   have m16:aZ (Wx.alloc (.cells #[Z ab y.f0.f0,Z ab y.f0.f1,Z ab y.f1.f0,Z ab y.f1.f1] 31)) (Wx.heap.size) #[Z ab y.f0.f0,Z ab y.f0.f1,Z ab y.f1.f0,Z ab y.f1.f1] 31:=(by have h_:=bB Wx (.cells #[Z ab y.f0.f0,Z ab y.f0.f1,Z ab y.f1.f0,Z ab y.f1.f1] 31);first|exact h_|(simp only [World.size_alloc] at h_;exact h_))
   replace mT:aZ (Wx.alloc (.cells #[Z ab y.f0.f0,Z ab y.f0.f1,Z ab y.f1.f0,Z ab y.f1.f1] 31)) b #[Z ab s.nx,Z ab s.ny,Z ab s.cell,Z ab s.slot,Z ab s.slots,Z ab s.layers,Z ab s.most,.slice A7 s.shores.length c7,.slice (some ad) s.currents.length c8,Z ab v.speed,Z ab v.dive,Z ab v.use.f0,Z ab v.use.f1,Z ab v.drift.f0,Z ab v.drift.f1,Z ab v.reserve] 110:=(aa mT _)
   replace m5:aZ (Wx.alloc (.cells #[Z ab y.f0.f0,Z ab y.f0.f1,Z ab y.f1.f0,Z ab y.f1.f1] 31)) g5 #[.pointer (some ⟨b,0,none⟩)] 104:=(aa m5 _)
   replace m6:aZ (Wx.alloc (.cells #[Z ab y.f0.f0,Z ab y.f0.f1,Z ab y.f1.f0,Z ab y.f1.f1] 31)) g6 #[Z ab x.f0.f0,Z ab x.f0.f1,Z ab x.f1.f0,Z ab x.f1.f1] 31:=(aa m6 _)
   replace m10:aZ (Wx.alloc (.cells #[Z ab y.f0.f0,Z ab y.f0.f1,Z ab y.f1.f0,Z ab y.f1.f1] 31)) g10 #[Z ab (jP L).f0.f0,Z ab (jP L).f0.f1,Z ab (jP L).f1.f0,Z ab (jP L).f1.f1] 31:=(aa m10 _)
   replace m12:aZ (Wx.alloc (.cells #[Z ab y.f0.f0,Z ab y.f0.f1,Z ab y.f1.f0,Z ab y.f1.f1] 31)) g12 #[.bool (qa L).isNone] 4:=(aa m12 _)
   replace m14:aZ (Wx.alloc (.cells #[Z ab y.f0.f0,Z ab y.f0.f1,Z ab y.f1.f0,Z ab y.f1.f1] 31)) g14 #[Z ab R] 3:=(aa m14 _)
   replace mB:Below w.heap.size w (Wx.alloc (.cells #[Z ab y.f0.f0,Z ab y.f0.f1,Z ab y.f1.f0,Z ab y.f1.f1] 31)):=(ai mB _)
   have dU:w.heap.size≤Wx.heap.size:=Yf
   generalize jq:(Wx.alloc (.cells #[Z ab y.f0.f0,Z ab y.f0.f1,Z ab y.f1.f0,Z ab y.f1.f1] 31)) = W3 at mT m5 m6 m10 m12 m14 m16 mB hM hN ⊢
   clear jq
   generalize abp:Wx.heap.size = g16 at m16 F3 ⊢
   have qw:b≠g16:=by omega
   have rO:g5≠g16:=by omega
   have pU:g6≠g16:=by omega
   have gM:g10≠g16:=by omega
   have qx:g12≠g16:=by omega
   have gN:g14≠g16:=by omega
   have vQ:g16≠b:=qw.symm
   have adn:g16≠g5:=rO.symm
   have TC:g16≠g6:=pU.symm
   have aqT:g16≠g10:=gM.symm
   have aqU:g16≠g12:=qx.symm
   have jV:g16≠g14:=gN.symm
   have Lr:w.heap.size≤g16:=by omega
   clear dU mF uj rz PI FX yu
   try clear abp
   have uY:w.heap.size≤W3.heap.size:=mB.size
   have hNS:=HN.out
   obtain ⟨_,_,_,_,_,_,iA,fO,_⟩:=hNS
   have HN2:Hid (g5≠g16∧g6≠g16∧g14≠g16):=Lib.hid ⟨rO,pU,gN⟩
   try clear qw vQ
   try clear rO adn
   try clear pU TC
   try clear gN jV
   have hd_:1≤6 - 1 - 1:=by decide
   have hmx:Try.prog.follows .mixedOrders = true:=by kernel_rfl
   cases hO:qa L with
   |none =>
    rw [hO] at m12
    have HO:=Lib.hid hO
    clear hO
    obtain ⟨F4,agQ,agR,agS⟩:=mH m16
    obtain ⟨uU,uV,uW,uX⟩:=mH m10
    have Ym:=(ae m12 0).trans rfl
    obtain ⟨Yg,Yh,Yi,Yj⟩:=akE m10
    have aqV:=aK m12 0
    skip
    gi_wp2
    clear iA fO
    obtain ⟨jU,zD,jA,lu,mZ,yo,iA,fO,pQ,pR,Dp,Dq⟩:=HN.out
    obtain ⟨rO,pU,gN⟩:=HN2.out
    have hE:uT s layer j c.1 = ⟨y.f0,y.f1⟩:=HY.out
    have hmap:fI s x layer j0 q++List.map (fun c=>uT s layer j c.1) (pre++[c]) = L++[(⟨y.f0,y.f1⟩:cZ)]:=by rw [List.map_append,List.map_singleton,← List.append_assoc,hLL.out,hE]
    refine ⟨(eD hN).trans ((((((KeepsOthers.setCell _ _ _).trans (KeepsOthers.setCell _ _ _)).trans (KeepsOthers.setCell _ _ _)).trans (KeepsOthers.setCell _ _ _)).trans (KeepsOthers.setCell _ _ _)).from _),(EZ.set (p:=⟨g12,0,none⟩) (EZ.set (p:=⟨g10,3,none⟩) (EZ.set (p:=⟨g10,2,none⟩) (EZ.set (p:=⟨g10,1,none⟩) (EZ.set (p:=⟨g10,0,none⟩) (EZ.below (Nat.le_trans pI hXs) hN) lZ pQ pR _) lZ pQ pR _) lZ pQ pR _) lZ pQ pR _) Fp Dp Dq _),?_⟩
    dsimp only
    rw [hmap]
    unfold jP
    rw [PE HO.out]
    exact ⟨(ah (p:=⟨g12,0,none⟩) (ah (p:=⟨g10,3,none⟩) (ah (p:=⟨g10,2,none⟩) (ah (p:=⟨g10,1,none⟩) (ah (p:=⟨g10,0,none⟩) m5 jU _) jU _) jU _) jU _) zD _),(ah (p:=⟨g12,0,none⟩) (ah (p:=⟨g10,3,none⟩) (ah (p:=⟨g10,2,none⟩) (ah (p:=⟨g10,1,none⟩) (ah (p:=⟨g10,0,none⟩) m6 jA _) jA _) jA _) jA _) lu _),(ah (p:=⟨g12,0,none⟩) (ah (p:=⟨g10,3,none⟩) (ah (p:=⟨g10,2,none⟩) (ah (p:=⟨g10,1,none⟩) (ah (p:=⟨g10,0,none⟩) m14 mZ _) mZ _) mZ _) mZ _) yo _),(ah (p:=⟨g12,0,none⟩) (az (az (az (az m10 0 (Z ab y.f0.f0) rfl) 1 (Z ab y.f0.f1) rfl) 2 (Z ab y.f1.f0) rfl) 3 (Z ab y.f1.f1) rfl) iA _),(az (ah (p:=⟨g10,3,none⟩) (ah (p:=⟨g10,2,none⟩) (ah (p:=⟨g10,1,none⟩) (ah (p:=⟨g10,0,none⟩) m12 fO _) fO _) fO _) fO _) 0 (.bool false) rfl),(Marks.set (Marks.set (Marks.set (Marks.set (Marks.set hM m10 (i:=0) _) (az m10 0 (Z ab y.f0.f0) rfl) (i:=1) _) (az (az m10 0 (Z ab y.f0.f0) rfl) 1 (Z ab y.f0.f1) rfl) (i:=2) _) (az (az (az m10 0 (Z ab y.f0.f0) rfl) 1 (Z ab y.f0.f1) rfl) 2 (Z ab y.f1.f0) rfl) (i:=3) _) (ah (p:=⟨g10,3,none⟩) (ah (p:=⟨g10,2,none⟩) (ah (p:=⟨g10,1,none⟩) (ah (p:=⟨g10,0,none⟩) m12 fO _) fO _) fO _) fO _) (i:=0) _),(Below.setCell (p:=⟨g12,0,none⟩) (Below.setCell (p:=⟨g10,3,none⟩) (Below.setCell (p:=⟨g10,2,none⟩) (Below.setCell (p:=⟨g10,1,none⟩) (Below.setCell (p:=⟨g10,0,none⟩) mB lZ _) lZ _) lZ _) lZ _) Fp _)⟩
   |some z =>
    have hz_:jP L = z:=by unfold jP;rw [hO];rfl
    rw [hO] at m12
    rw [hz_] at m10
    have HO:=Lib.hid hO
    clear hO hz_
    obtain ⟨F4,agQ,agR,agS⟩:=mH m16
    obtain ⟨uU,uV,uW,uX⟩:=mH m10
    have Ym:=(ae m12 0).trans rfl
    gi_wp2_with fail
    clear F4 agQ agR agS uU uV uW uX Ym
    have hcon:=Yc z ⟨y.f0,y.f1⟩ W3
    refine ⟨trivial,(CallsIn.inRound l (callsIn_wide.2 hcon)).mono ?_⟩
    clear hcon
    rintro e W4 ⟨rfl,hb⟩
    generalize hH:mW z ⟨y.f0,y.f1⟩ = h_ at*
    have HH:=Lib.hid hH
    clear hH
    replace hM:=hM.below hb
    replace hN:=aJ hN hb
    replace mT:=af mT hb
    replace m5:=af m5 hb
    replace m6:=af m6 hb
    replace m10:=af m10 hb
    replace m12:=af m12 hb
    replace m14:=af m14 hb
    replace m16:=af m16 hb
    replace mB:=aJ mB hb
    clear hb
    have E5:w.heap.size≤W4.heap.size:=mB.size
    obtain ⟨F4,agQ,agR,agS⟩:=mH m16
    obtain ⟨uU,uV,uW,uX⟩:=mH m10
    have Ym:=(ae m12 0).trans rfl
    obtain ⟨aFV,aFW,aFX,aFY⟩:=akE m16
    obtain ⟨Yg,Yh,Yi,Yj⟩:=akE m10
    have aqV:=aK m12 0
    skip
    gi_wp2
    clear iA fO
    obtain ⟨jU,zD,jA,lu,mZ,yo,iA,fO,pQ,pR,Dp,Dq⟩:=HN.out
    obtain ⟨rO,pU,gN⟩:=HN2.out
    have hE:uT s layer j c.1 = ⟨y.f0,y.f1⟩:=HY.out
    have hmap:fI s x layer j0 q++List.map (fun c=>uT s layer j c.1) (pre++[c]) = L++[(⟨y.f0,y.f1⟩:cZ)]:=by rw [List.map_append,List.map_singleton,← List.append_assoc,hLL.out,hE]
    refine ⟨(eD hN).trans ((((((((((KeepsOthers.setCell _ _ _).trans (KeepsOthers.setCell _ _ _)).trans (KeepsOthers.setCell _ _ _)).trans (KeepsOthers.setCell _ _ _)).trans (KeepsOthers.setCell _ _ _)).trans (KeepsOthers.setCell _ _ _)).trans (KeepsOthers.setCell _ _ _)).trans (KeepsOthers.setCell _ _ _)).trans (KeepsOthers.setCell _ _ _)).from _),(EZ.set (p:=⟨g12,0,none⟩) (EZ.set (p:=⟨g10,3,none⟩) (EZ.set (p:=⟨g10,2,none⟩) (EZ.set (p:=⟨g10,1,none⟩) (EZ.set (p:=⟨g10,0,none⟩) (EZ.set (p:=⟨g16,3,none⟩) (EZ.set (p:=⟨g16,2,none⟩) (EZ.set (p:=⟨g16,1,none⟩) (EZ.set (p:=⟨g16,0,none⟩) (EZ.below (Nat.le_trans pI hXs) hN) Lr (Nat.ne_of_lt (Nat.lt_of_lt_of_le (aD mP) F3)) (Nat.ne_of_lt (Nat.lt_of_lt_of_le (aD mX) F3)) _) Lr (Nat.ne_of_lt (Nat.lt_of_lt_of_le (aD mP) F3)) (Nat.ne_of_lt (Nat.lt_of_lt_of_le (aD mX) F3)) _) Lr (Nat.ne_of_lt (Nat.lt_of_lt_of_le (aD mP) F3)) (Nat.ne_of_lt (Nat.lt_of_lt_of_le (aD mX) F3)) _) Lr (Nat.ne_of_lt (Nat.lt_of_lt_of_le (aD mP) F3)) (Nat.ne_of_lt (Nat.lt_of_lt_of_le (aD mX) F3)) _) lZ pQ pR _) lZ pQ pR _) lZ pQ pR _) lZ pQ pR _) Fp Dp Dq _),?_⟩
    dsimp only
    rw [hmap]
    unfold jP
    rw [PG HO.out]
    rw [HH.out]
    exact ⟨(ah (p:=⟨g12,0,none⟩) (ah (p:=⟨g10,3,none⟩) (ah (p:=⟨g10,2,none⟩) (ah (p:=⟨g10,1,none⟩) (ah (p:=⟨g10,0,none⟩) (ah (p:=⟨g16,3,none⟩) (ah (p:=⟨g16,2,none⟩) (ah (p:=⟨g16,1,none⟩) (ah (p:=⟨g16,0,none⟩) m5 rO _) rO _) rO _) rO _) jU _) jU _) jU _) jU _) zD _),(ah (p:=⟨g12,0,none⟩) (ah (p:=⟨g10,3,none⟩) (ah (p:=⟨g10,2,none⟩) (ah (p:=⟨g10,1,none⟩) (ah (p:=⟨g10,0,none⟩) (ah (p:=⟨g16,3,none⟩) (ah (p:=⟨g16,2,none⟩) (ah (p:=⟨g16,1,none⟩) (ah (p:=⟨g16,0,none⟩) m6 pU _) pU _) pU _) pU _) jA _) jA _) jA _) jA _) lu _),(ah (p:=⟨g12,0,none⟩) (ah (p:=⟨g10,3,none⟩) (ah (p:=⟨g10,2,none⟩) (ah (p:=⟨g10,1,none⟩) (ah (p:=⟨g10,0,none⟩) (ah (p:=⟨g16,3,none⟩) (ah (p:=⟨g16,2,none⟩) (ah (p:=⟨g16,1,none⟩) (ah (p:=⟨g16,0,none⟩) m14 gN _) gN _) gN _) gN _) mZ _) mZ _) mZ _) mZ _) yo _),(ah (p:=⟨g12,0,none⟩) (az (az (az (az (ah (p:=⟨g16,3,none⟩) (ah (p:=⟨g16,2,none⟩) (ah (p:=⟨g16,1,none⟩) (ah (p:=⟨g16,0,none⟩) m10 gM _) gM _) gM _) gM _) 0 (Z ab h_.f0.f0) rfl) 1 (Z ab h_.f0.f1) rfl) 2 (Z ab h_.f1.f0) rfl) 3 (Z ab h_.f1.f1) rfl) iA _),(az (ah (p:=⟨g10,3,none⟩) (ah (p:=⟨g10,2,none⟩) (ah (p:=⟨g10,1,none⟩) (ah (p:=⟨g10,0,none⟩) (ah (p:=⟨g16,3,none⟩) (ah (p:=⟨g16,2,none⟩) (ah (p:=⟨g16,1,none⟩) (ah (p:=⟨g16,0,none⟩) m12 qx _) qx _) qx _) qx _) fO _) fO _) fO _) fO _) 0 (.bool false) rfl),(Marks.set (Marks.set (Marks.set (Marks.set (Marks.set (Marks.set (Marks.set (Marks.set (Marks.set hM m16 (i:=0) _) (az m16 0 (Z ab h_.f0.f0) rfl) (i:=1) _) (az (az m16 0 (Z ab h_.f0.f0) rfl) 1 (Z ab h_.f0.f1) rfl) (i:=2) _) (az (az (az m16 0 (Z ab h_.f0.f0) rfl) 1 (Z ab h_.f0.f1) rfl) 2 (Z ab h_.f1.f0) rfl) (i:=3) _) (ah (p:=⟨g16,3,none⟩) (ah (p:=⟨g16,2,none⟩) (ah (p:=⟨g16,1,none⟩) (ah (p:=⟨g16,0,none⟩) m10 gM _) gM _) gM _) gM _) (i:=0) _) (az (ah (p:=⟨g16,3,none⟩) (ah (p:=⟨g16,2,none⟩) (ah (p:=⟨g16,1,none⟩) (ah (p:=⟨g16,0,none⟩) m10 gM _) gM _) gM _) gM _) 0 (Z ab h_.f0.f0) rfl) (i:=1) _) (az (az (ah (p:=⟨g16,3,none⟩) (ah (p:=⟨g16,2,none⟩) (ah (p:=⟨g16,1,none⟩) (ah (p:=⟨g16,0,none⟩) m10 gM _) gM _) gM _) gM _) 0 (Z ab h_.f0.f0) rfl) 1 (Z ab h_.f0.f1) rfl) (i:=2) _) (az (az (az (ah (p:=⟨g16,3,none⟩) (ah (p:=⟨g16,2,none⟩) (ah (p:=⟨g16,1,none⟩) (ah (p:=⟨g16,0,none⟩) m10 gM _) gM _) gM _) gM _) 0 (Z ab h_.f0.f0) rfl) 1 (Z ab h_.f0.f1) rfl) 2 (Z ab h_.f1.f0) rfl) (i:=3) _) (ah (p:=⟨g10,3,none⟩) (ah (p:=⟨g10,2,none⟩) (ah (p:=⟨g10,1,none⟩) (ah (p:=⟨g10,0,none⟩) (ah (p:=⟨g16,3,none⟩) (ah (p:=⟨g16,2,none⟩) (ah (p:=⟨g16,1,none⟩) (ah (p:=⟨g16,0,none⟩) m12 qx _) qx _) qx _) qx _) fO _) fO _) fO _) fO _) (i:=0) _),(Below.setCell (p:=⟨g12,0,none⟩) (Below.setCell (p:=⟨g10,3,none⟩) (Below.setCell (p:=⟨g10,2,none⟩) (Below.setCell (p:=⟨g10,1,none⟩) (Below.setCell (p:=⟨g10,0,none⟩) (Below.setCell (p:=⟨g16,3,none⟩) (Below.setCell (p:=⟨g16,2,none⟩) (Below.setCell (p:=⟨g16,1,none⟩) (Below.setCell (p:=⟨g16,0,none⟩) mB Lr _) Lr _) Lr _) Lr _) lZ _) lZ _) lZ _) lZ _) Fp _)⟩
end Go.Proofs.Ytmhaiihjfgfaoaa.Gl
end
