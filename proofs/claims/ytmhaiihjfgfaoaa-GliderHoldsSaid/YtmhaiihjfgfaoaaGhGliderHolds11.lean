import Derived.Test.YtmhaiihjfgfaoaaGhGliderHolds3
import Derived.Test.YtmhaiihjfgfaoaaGhGliderHolds10
section
namespace Go.Proofs.Ytmhaiihjfgfaoaa.Gl
open Go.RowKit Go.Shelf Go.Proofs.YtmhaiihjfgfaoaaW.PrintWords Go.Proofs.YtmhaiihjfgfaoaaW.PrintLast Go.Proofs.YtmhaiihjfgfaoaaW.PrintMore Go.Proofs.Ytmhaiihjfgfaoaa.Pr Go.Proofs.YtmhaiihjfgfaoaaW.Round
set_option linter.unusedVariables false
set_option linter.unusedSimpArgs false
attribute [local go_sem] cz cB dK dL cK
attribute [local go_sem] Oper.semAt_some
theorem Io (a b:Int):mn a b = min a b:=by unfold mn;split <;> omega
theorem Ip (a b:Int):mx a b = max a b:=by unfold mx;split <;> omega
def vW (a b:gz):gz:=⟨⟨min a.f0.f0 b.f0.f0,max a.f0.f1 b.f0.f1⟩,⟨min a.f1.f0 b.f1.f0,max a.f1.f1 b.f1.f1⟩⟩
def Uu (o:Option gz) (y:gz):Option gz:=some (match o with|none=>y|some z=>vW z y)
def qw (l:List gz):Option gz:=l.foldl Uu none
theorem GM (l:List gz) (y:gz):qw (l++[y]) = Uu (qw l) y:=by unfold qw;rw [List.foldl_append];rfl
def rQ (s:lF) (layer j c:Int):gz:=⟨(aH s.currents ((j*s.layers+layer)*(s.nx*s.ny)+c)).f0,(aH s.currents ((j*s.layers+layer)*(s.nx*s.ny)+c)).f1⟩
def slotL (s:lF) (x:gz) (layer j:Int):List gz:=(nW s x).map (rQ s layer j)
def iP (s:lF) (x:gz) (layer j0:Int) (q:Nat):List gz:=(List.range q).flatMap fun r:Nat=>slotL s x layer (j0+(r:Int))
theorem Uv (s:lF) (x:gz) (layer j0:Int) (q:Nat):iP s x layer j0 (q+1) = iP s x layer j0 q++slotL s x layer (j0+(q:Int)):=by
 unfold iP
 rw [List.range_succ,List.flatMap_append,List.flatMap_singleton]
def z8 (s:lF) (x:gz) (layer t u:Int):gz:=(qw (iP s x layer (t / s.slot) ((u - 1) / s.slot+1 - t / s.slot).toNat)).getD z31
def Gz (w:World) (bp bx b:Nat) (x:gz) (A B:World):Prop:=Below w.heap.size A B∧(iD A bp #[.pointer (some ⟨b,0,none⟩)] 104→iD B bp #[.pointer (some ⟨b,0,none⟩)] 104)∧(iD A bx #[.int .i64 x.f0.f0,.int .i64 x.f0.f1,.int .i64 x.f1.f0,.int .i64 x.f1.f1] 31→iD B bx #[.int .i64 x.f0.f0,.int .i64 x.f0.f1,.int .i64 x.f1.f0,.int .i64 x.f1.f1] 31)
theorem Gz.trans {w:World} {bp bx b:Nat} {x:gz} {A B C:World} (h:Gz w bp bx b x A B) (k:Gz w bp bx b x B C):Gz w bp bx b x A C:=⟨h.1.trans k.1,fun q=>k.2.1 (h.2.1 q),fun q=>k.2.2 (h.2.2 q)⟩
theorem Gz.put {w W0:World} {bp bx b:Nat} {x:gz} (hw:w.heap.size≤W0.heap.size) (hp:bp < W0.heap.size) (hx:bx < W0.heap.size) (W:World) (l:Nat) (o o':Obj) (hl:W0.heap.size≤l) (h:W.heap[l]? = some o) (h1:o.isCells = false) (h2:o.isWalk = false):Gz w bp bx b x W (W.putObj l o') :=
 ⟨belowK_b hw W l o o' hl h h1 h2,fun q=>(World.putObj_heap_other (by omega)).trans q,fun q=>(World.putObj_heap_other (by omega)).trans q⟩
theorem Gz.below {w:World} {bp bx b:Nat} {x:gz} {A B:World} (hw:w.heap.size≤A.heap.size) (h:Below A.heap.size A B):Gz w bp bx b x A B:=⟨h.mono hw,fun q=>iD.KN q h,fun q=>iD.KN q h⟩
theorem Gz.set {w:World} {bp bx b:Nat} {x:gz} {A B:World} (h:Gz w bp bx b x A B) {p:Addr} (hp:w.heap.size≤p.block) (h1:bp≠p.block) (h2:bx≠p.block) (u:Value):Gz w bp bx b x A (B.setCell p u):=⟨h.1.setCell hp u,fun q=>aM (h.2.1 q) h1 u,fun q=>aM (h.2.2 q) h2 u⟩
def mark (D_:Nat):Deferred:={ target:=.collected D_,args:=#[] }
def Marks (W:World) (B:Nat) (Ds:List Nat):Prop:=Ds.Nodup∧∀ D_ ∈ Ds,B≤D_∧W.heap[D_]? = some (.deferred (some []))
theorem Marks.nil (W:World) (B:Nat):Marks W B []:=⟨List.nodup_nil,fun D_ h=>by cases h⟩
theorem Marks.below {W W1:World} {B:Nat} {Ds:List Nat} (h:Marks W B Ds) (hb:Below W.heap.size W W1):Marks W1 B Ds :=
 ⟨h.1,fun D_ hD=>⟨(h.2 D_ hD).1,(hb.block D_ (Array.getElem?_eq_some_iff.1 (h.2 D_ hD).2).1).trans (h.2 D_ hD).2⟩⟩
theorem Marks.cons {W:World} {B D_:Nat} {Ds:List Nat} (h:Marks W B Ds) (hn:D_ ∉ Ds) (hB:B≤D_) (hD:W.heap[D_]? = some (.deferred (some []))):Marks W B (D_ :: Ds) :=
 ⟨List.nodup_cons.2 ⟨hn,h.1⟩,fun E hE=>by
  rcases List.mem_cons.1 hE with rfl|hE
  ·exact ⟨hB,hD⟩
  ·exact h.2 E hE⟩
theorem Marks.set {W:World} {B:Nat} {Ds:List Nat} (h:Marks W B Ds) {g i:Nat} {cs:Array Value} {t:TypeId} (hg:W.heap[g]? = some (.cells cs t (0,0))) (u:Value):Marks (W.setCell ⟨g,i,none⟩ u) B Ds :=
 ⟨h.1,fun D_ hD=>⟨(h.2 D_ hD).1,(Below.heap_setCell _ _ _ D_ (fun e=>by
  have h2:=(h.2 D_ hD).2
  rw [show D_ = g from e,hg] at h2
  cases h2)).trans (h.2 D_ hD).2⟩⟩
theorem PS {β:Type} (B B0:Nat) (Ds:List Nat) (h:∀ D_ ∈ Ds,D_ < B):OwnFrom B (fun (_:β) W=>Marks W B0 Ds):=fun s X Y row hs hg hr =>
 ⟨hs.1,fun D_ hD=>⟨(hs.2 D_ hD).1,(hg.block D_ (Array.getElem?_eq_some_iff.1 (hs.2 D_ hD).2).1 (fun e=>by have h1:=(hr D_ e.symm).1;have h2:=h D_ hD;omega)).trans (hs.2 D_ hD).2⟩⟩
theorem Iq {P:Program} {F:Fence} {n:Nat} {fn:Func} {tmps:Array Value} {R:Ending→World→Prop} {B:Nat} (I:World→Prop) (hI:∀ W D_,I W→B≤D_→W.heap[D_]? = some (.deferred (some []))→I (W.putObj D_ (.deferred none)))
 (hend:∀ W,I W→LeavesInM F n P fn tmps R [] .returning W):∀ (Ds:List Nat) (W:World),Marks W B Ds→I W→LeavesInM F n P fn tmps R (Ds.map mark) .returning W
 |[],W,_,h=>hend W h
 |D_ :: Ds,W,hM,h=>by
  have hD:=hM.2 D_ List.mem_cons_self
  refine ⟨by simp,.inl ⟨D_,_,rfl,run_takeDeferred hD.2,?_⟩⟩
  refine Iq I hI hend Ds _ ⟨(List.nodup_cons.1 hM.1).2,fun E hE=>?_⟩ (hI W D_ h hD.1 hD.2)
  have hE2:=hM.2 E (List.mem_cons_of_mem _ hE)
  have hne:E≠D_:=fun e=>(List.nodup_cons.1 hM.1).1 (e ▸ hE)
  exact ⟨hE2.1,(World.putObj_heap_other (fun e=>hne e)).trans hE2.2⟩
theorem OL {q l k c ll kk:Int} (h0:0≤q) (h1:q < ll) (h2:0≤l) (h3:l < kk) (h4:0≤c) (h5:c < k):0≤(q*kk+l)*k+c∧(q*kk+l)*k+c < ll*kk*k:=by
 have a0:0≤q*kk:=Int.mul_nonneg h0 (by omega)
 have a1:0≤(q*kk+l)*k:=Int.mul_nonneg (by omega) (by omega)
 have a2:(q+1)*kk≤ll*kk:=Int.mul_le_mul_of_nonneg_right (by omega) (by omega)
 rw [Int.add_mul,Int.one_mul] at a2
 have a3:(q*kk+l+1)*k≤ll*kk*k:=Int.mul_le_mul_of_nonneg_right (by omega) (by omega)
 rw [Int.add_mul,Int.one_mul] at a3
 omega
def jT (l:List gz):gz:=(qw l).getD z31
theorem OM {l:List gz} {y:gz} (h:qw l = none):qw (l++[y]) = some y:=by rw [GM,h];rfl
theorem OO {l:List gz} {y z:gz} (h:qw l = some z):qw (l++[y]) = some (vW z y):=by rw [GM,h];rfl
theorem ac5 (a c:gz) (w:World):Calls Try.prog 119 #[.agg #[.int .i64 a.f0.f0,.int .i64 a.f0.f1,.int .i64 a.f1.f0,.int .i64 a.f1.f1],.agg #[.int .i64 c.f0.f0,.int .i64 c.f0.f1,.int .i64 c.f1.f0,.int .i64 c.f1.f1]] w
 (xA (.agg #[.int .i64 (vW a c).f0.f0,.int .i64 (vW a c).f0.f1,.int .i64 (vW a c).f1.f0,.int .i64 (vW a c).f1.f1]) w) :=
 xZ.calls _ _ _ _ _ _ _ _ _ _ _ _ w (by unfold xZ.f vW;simp only [Io,Ip])
set_option maxRecDepth 100000 in
set_option maxHeartbeats 8000000 in
theorem amd (b:Nat) (s:lF) (v:qO) (x:gz) (layer t u:Int) (w:World) (hT:kZ w b s v) (hS:xz s) (hx:Qt s x) (hcu:(s.currents.length:Int) = s.slots*s.layers*(s.nx*s.ny)) (hl0:0≤layer) (hl1:layer < s.layers) (ht0:0≤t) (ht1:t < u) (ht2:u≤s.slots*s.slot):
 Calls Try.prog 70 #[.pointer (some ⟨b,0,none⟩),.agg #[.int .i64 x.f0.f0,.int .i64 x.f0.f1,.int .i64 x.f1.f0,.int .i64 x.f1.f1],.int .i64 layer,.int .i64 t,.int .i64 u] w (xA (.agg #[.int .i64 (z8 s x layer t u).f0.f0,.int .i64 (z8 s x layer t u).f0.f1,.int .i64 (z8 s x layer t u).f1.f0,.int .i64 (z8 s x layer t u).f1.f1]) w):=by
 have qP:=Try.underlying31
 have hxy:=fI (show 0≤s.nx by have:=hS.nx;omega) hS.nx.2 (show 0≤s.ny by have:=hS.ny;omega) hS.ny.2
 have hss:=fI (show 0≤s.slots by have:=hS.slots;omega) hS.slots.2 (show 0≤s.slot by have:=hS.slot;omega) hS.slot.2
 have hsl:=hS.slot
 have hso:=hS.slots
 have hla:=hS.layers
 have hcl:s.currents.length≤10000:=by
  have h1:=fI (show 0≤s.slots by omega) hso.2 (show 0≤s.layers by omega) hla.2
  have h2:=fI h1.1 h1.2 hxy.1 hxy.2
  omega
 have HCU:=Lib.hid hcu
 clear hcu
 have hj0:=Bl ht0 (show 1≤s.slot by omega)
 have hj1:=Bl (show 0≤u - 1 by omega) (show 1≤s.slot by omega)
 have hj2:(u - 1) / s.slot < s.slots:=by
  refine Int.ediv_lt_of_lt_mul (by omega) ?_
  omega
 have e0:Int.tdiv t s.slot = t / s.slot:=Int.tdiv_eq_ediv_of_nonneg ht0
 have e1:Int.tdiv (u - 1) s.slot = (u - 1) / s.slot:=Int.tdiv_eq_ediv_of_nonneg (by omega)
 have hne:s.slot≠0:=by omega
 have hbq:(s.slot == 0) = false:=beq_eq_false_iff_ne.2 hne
 have HR:Hid (z8 s x layer t u = (qw (iP s x layer (t / s.slot) ((u - 1) / s.slot+1 - t / s.slot).toNat)).getD z31):=Lib.hid rfl
 generalize t / s.slot = j0 at*
 generalize (u - 1) / s.slot = j1 at*
 have hT0:=hT
 obtain ⟨A7,c7,A8,c8,mT,_⟩:=hT0
 refine (callsIn_wide (n:=6)).1 ?_
 refine callsIn_of_wp_marks Try.func70 rfl trivial ?_ rfl
 simp only [Try.ntmps70,List.size_toArray,List.length_cons,List.length_nil,Nat.reduceAdd,Nat.reduceSub,Array.replicate_succ,Array.replicate_zero,List.push_toArray,List.append_toArray,List.nil_append,List.cons_append]
 gi_wp2_with fail
 have Dj:=dV mT
 have m5:iD (((w.alloc (.cells #[.pointer (some ⟨b,0,none⟩)] 104)).alloc (.cells #[.int .i64 x.f0.f0,.int .i64 x.f0.f1,.int .i64 x.f1.f0,.int .i64 x.f1.f1] 31)).alloc (.cells #[.int .i64 0,.int .i64 0,.int .i64 0,.int .i64 0] 31)) (w.heap.size) #[.pointer (some ⟨b,0,none⟩)] 104:=(ag (ag aoE _) _)
 have m6:iD (((w.alloc (.cells #[.pointer (some ⟨b,0,none⟩)] 104)).alloc (.cells #[.int .i64 x.f0.f0,.int .i64 x.f0.f1,.int .i64 x.f1.f0,.int .i64 x.f1.f1] 31)).alloc (.cells #[.int .i64 0,.int .i64 0,.int .i64 0,.int .i64 0] 31)) (w.heap.size+1) #[.int .i64 x.f0.f0,.int .i64 x.f0.f1,.int .i64 x.f1.f0,.int .i64 x.f1.f1] 31:=(ag aoF _)
 have m10:iD (((w.alloc (.cells #[.pointer (some ⟨b,0,none⟩)] 104)).alloc (.cells #[.int .i64 x.f0.f0,.int .i64 x.f0.f1,.int .i64 x.f1.f0,.int .i64 x.f1.f1] 31)).alloc (.cells #[.int .i64 0,.int .i64 0,.int .i64 0,.int .i64 0] 31)) (w.heap.size+1+1) #[.int .i64 0,.int .i64 0,.int .i64 0,.int .i64 0] 31:=(by have h_:=fT ((w.alloc (.cells #[.pointer (some ⟨b,0,none⟩)] 104)).alloc (.cells #[.int .i64 x.f0.f0,.int .i64 x.f0.f1,.int .i64 x.f1.f0,.int .i64 x.f1.f1] 31)) (.cells #[.int .i64 0,.int .i64 0,.int .i64 0,.int .i64 0] 31);first|exact h_|(simp only [World.size_alloc] at h_;exact h_))
 replace mT:iD (((w.alloc (.cells #[.pointer (some ⟨b,0,none⟩)] 104)).alloc (.cells #[.int .i64 x.f0.f0,.int .i64 x.f0.f1,.int .i64 x.f1.f0,.int .i64 x.f1.f1] 31)).alloc (.cells #[.int .i64 0,.int .i64 0,.int .i64 0,.int .i64 0] 31)) b #[.int .i64 s.nx,.int .i64 s.ny,.int .i64 s.cell,.int .i64 s.slot,.int .i64 s.slots,.int .i64 s.layers,.int .i64 s.most,.slice A7 s.shores.length c7,.slice A8 s.currents.length c8,.int .i64 v.speed,.int .i64 v.dive,.int .i64 v.use.f0,.int .i64 v.use.f1,.int .i64 v.drift.f0,.int .i64 v.drift.f1,.int .i64 v.reserve] 110:=(ag (ag (ag mT _) _) _)
 have mB:Below w.heap.size w (((w.alloc (.cells #[.pointer (some ⟨b,0,none⟩)] 104)).alloc (.cells #[.int .i64 x.f0.f0,.int .i64 x.f0.f1,.int .i64 x.f1.f0,.int .i64 x.f1.f1] 31)).alloc (.cells #[.int .i64 0,.int .i64 0,.int .i64 0,.int .i64 0] 31)):=(aY (aY (aY (Below.refl w.heap.size w) _) _) _)
 have nK:w.heap.size≤w.heap.size:=Nat.le_refl _
 generalize xV:(((w.alloc (.cells #[.pointer (some ⟨b,0,none⟩)] 104)).alloc (.cells #[.int .i64 x.f0.f0,.int .i64 x.f0.f1,.int .i64 x.f1.f0,.int .i64 x.f1.f1] 31)).alloc (.cells #[.int .i64 0,.int .i64 0,.int .i64 0,.int .i64 0] 31)) = W1 at mT m5 m6 m10 mB ⊢
 clear xV
 generalize hg5:w.heap.size = g5 at m5 m6 m10 ⊢
 have Re:b≠g5:=by omega
 have ac6:g5≠b:=Re.symm
 have hG5:w.heap.size≤g5:=by omega
 generalize hg6:g5+1 = g6 at m6 m10 ⊢
 have KO:b≠g6:=by omega
 have Dk:g5≠g6:=by omega
 have WH:g6≠b:=KO.symm
 have Rf:g6≠g5:=Dk.symm
 have Uw:w.heap.size≤g6:=by omega
 generalize WI:g6+1 = g10 at m10 ⊢
 have MB:b≠g10:=by omega
 have mK:g5≠g10:=by omega
 have mM:g6≠g10:=by omega
 have Yg:g10≠b:=MB.symm
 have Rh:g10≠g5:=mK.symm
 have Ri:g10≠g6:=mM.symm
 have nX:w.heap.size≤g10:=by omega
 clear nK Dj
 try clear WI
 try clear hg6
 try clear hg5
 have Dl:w.heap.size≤W1.heap.size:=mB.size
 refine KP (wpIn_wide.2 ?_)
 replace mT:=ah mT
 replace m5:=ah m5
 replace m6:=ah m6
 replace m10:=ah m10
 replace mB:=bW mB
 have wq:wrap64 (s.nx*s.ny) = s.nx*s.ny:=by unfold wrap64;omega
 refine jI (n:=12) (S:=fun w'=>w'.cell? ⟨g5,0,none⟩ = some (.pointer (some ⟨b,0,none⟩))∧w'.cell? ⟨b,0,none⟩ = some (.int .i64 s.nx)∧w'.cell? ⟨b,1,none⟩ = some (.int .i64 s.ny)) (ds:=[]) #[false,false,false,false,false,false,false,false,false,false,false,false] aR rfl rfl ⟨((aa m5 0).trans rfl),((aa mT 0).trans rfl),((aa mT 1).trans rfl)⟩ (fun hHeld=>?_)
 generalize hWd:World.drew _ = Wx at mB mT m5 m6 m10 hHeld ⊢
 clear hWd
 refine ja (i:=0) (N:=some 17) aR hHeld ?_
 refine dJ (i:=1) (N:=some 18) aR ?_
 refine dJ (i:=2) (N:=some 19) aR ?_
 refine dJ (i:=3) (N:=some 20) aR ?_
 refine ja (i:=4) (N:=some 21) aR hHeld ?_
 refine ja (i:=5) (N:=some 22) aR hHeld ?_
 refine dJ (i:=6) (N:=some 23) aR ?_
 refine dJ (i:=7) (N:=some 24) aR ?_
 refine dJ (i:=8) (N:=some 25) aR ?_
 refine ja (i:=9) (N:=some 26) aR hHeld ?_
 refine dJ (i:=10) (N:=some 27) aR ?_
 refine dJ (i:=11) (N:=some 11) aR ?_
 refine lC aR ?_
 clear wq hHeld
 refine Bn ?_
 have Ir:=(aa m5 0).trans rfl
 have cT3:=(aa mT 3).trans rfl
 have cq:∀ o_,(Wx.alloc o_).cell? ⟨g5,0,none⟩ = some (.pointer (some ⟨b,0,none⟩)):=fun o_=>(aa (ag m5 o_) 0).trans rfl
 have cq3:∀ o_,(Wx.alloc o_).cell? ⟨b,3,none⟩ = some (.int .i64 s.slot):=fun o_=>(aa (ag mT o_) 3).trans rfl
 gi_wp2_with fail
 clear cq cq3 Ir cT3
 have Ux:w.heap.size≤Wx.heap.size:=mB.size
 have Dj:=dV mT
 have KQ:=dV m5
 have Rj:=dV m6
 have OP:=dV m10
 have m12:iD (Wx.alloc (.cells #[.bool true] 4)) (Wx.heap.size) #[.bool true] 4:=(by have h_:=fT Wx (.cells #[.bool true] 4);first|exact h_|(simp only [World.size_alloc] at h_;exact h_))
 replace mT:iD (Wx.alloc (.cells #[.bool true] 4)) b #[.int .i64 s.nx,.int .i64 s.ny,.int .i64 s.cell,.int .i64 s.slot,.int .i64 s.slots,.int .i64 s.layers,.int .i64 s.most,.slice A7 s.shores.length c7,.slice A8 s.currents.length c8,.int .i64 v.speed,.int .i64 v.dive,.int .i64 v.use.f0,.int .i64 v.use.f1,.int .i64 v.drift.f0,.int .i64 v.drift.f1,.int .i64 v.reserve] 110:=(ag mT _)
 replace m5:iD (Wx.alloc (.cells #[.bool true] 4)) g5 #[.pointer (some ⟨b,0,none⟩)] 104:=(ag m5 _)
 replace m6:iD (Wx.alloc (.cells #[.bool true] 4)) g6 #[.int .i64 x.f0.f0,.int .i64 x.f0.f1,.int .i64 x.f1.f0,.int .i64 x.f1.f1] 31:=(ag m6 _)
 replace m10:iD (Wx.alloc (.cells #[.bool true] 4)) g10 #[.int .i64 0,.int .i64 0,.int .i64 0,.int .i64 0] 31:=(ag m10 _)
 replace mB:Below w.heap.size w (Wx.alloc (.cells #[.bool true] 4)):=(aY mB _)
 have nK:w.heap.size≤Wx.heap.size:=Ux
 generalize xV:(Wx.alloc (.cells #[.bool true] 4)) = W2 at mT m5 m6 m10 m12 mB ⊢
 clear xV
 generalize aCy:Wx.heap.size = g12 at m12 ⊢
 have rR:b≠g12:=by omega
 have Bo:g5≠g12:=by omega
 have nG:g6≠g12:=by omega
 have kz:g10≠g12:=by omega
 have afR:g12≠b:=rR.symm
 have afS:g12≠g5:=Bo.symm
 have afT:g12≠g6:=nG.symm
 have jA:g12≠g10:=kz.symm
 have KR:w.heap.size≤g12:=by omega
 clear nK Dj KQ Rj OP
 try clear aCy
 have x9:w.heap.size≤W2.heap.size:=mB.size
 refine wpIn_loop (fun a W=>∃ (q:Nat) (j:Int) (Ds:List Nat) (u_:Nat→Value),a = { tmps:=#[(u_ 0),(u_ 1),.int .i64 layer,(u_ 3),.int .i64 u,.pointer (some ⟨g5,0,none⟩),.pointer (some ⟨g6,0,none⟩),(u_ 7),(u_ 8),(u_ 9),.pointer (some ⟨g10,0,none⟩),.int .i64 (s.nx*s.ny),.pointer (some ⟨g12,0,none⟩),.int .i64 j,(u_ 14),(u_ 15),(u_ 16),(u_ 17),(u_ 18),(u_ 19),(u_ 20),(u_ 21),(u_ 22),(u_ 23),(u_ 24),(u_ 25),(u_ 26),(u_ 27),(u_ 28),(u_ 29),(u_ 30),(u_ 31),(u_ 32),(u_ 33),(u_ 34),(u_ 35),(u_ 36),(u_ 37),(u_ 38),(u_ 39),(u_ 40),(u_ 41),(u_ 42),(u_ 43),(u_ 44),(u_ 45),(u_ 46),(u_ 47),(u_ 48),(u_ 49),(u_ 50),(u_ 51),(u_ 52),(u_ 53),(u_ 54),(u_ 55),(u_ 56),(u_ 57),(u_ 58),(u_ 59),(u_ 60),(u_ 61),(u_ 62),(u_ 63),(u_ 64),(u_ 65),(u_ 66),(u_ 67),(u_ 68),(u_ 69),(u_ 70),(u_ 71),(u_ 72),(u_ 73),(u_ 74),(u_ 75),(u_ 76),(u_ 77),(u_ 78),(u_ 79),(u_ 80),(u_ 81),(u_ 82),(u_ 83),(u_ 84),(u_ 85),(u_ 86),(u_ 87),(u_ 88),(u_ 89),(u_ 90),(u_ 91)],defers:=Ds.map mark }∧Hid (j = j0+(q:Int))∧q≤(j1+1 - j0).toNat∧Marks W w.heap.size Ds∧iD W g5 #[.pointer (some ⟨b,0,none⟩)] 104∧iD W g6 #[.int .i64 x.f0.f0,.int .i64 x.f0.f1,.int .i64 x.f1.f0,.int .i64 x.f1.f1] 31∧iD W g10 #[.int .i64 (jT (iP s x layer j0 q)).f0.f0,.int .i64 (jT (iP s x layer j0 q)).f0.f1,.int .i64 (jT (iP s x layer j0 q)).f1.f0,.int .i64 (jT (iP s x layer j0 q)).f1.f1] 31∧iD W g12 #[.bool (qw (iP s x layer j0 q)).isNone] 4∧Below w.heap.size w W) (fun a _=>(j1+1 - intOf (a.tmps.getD 13 undef)).toNat) ⟨0,j0,[],(fun k=>(#[.pointer (some ⟨b,0,none⟩),.agg #[.int .i64 x.f0.f0,.int .i64 x.f0.f1,.int .i64 x.f1.f0,.int .i64 x.f1.f1],.int .i64 layer,.int .i64 t,.int .i64 u,.pointer (some ⟨g5,0,none⟩),.pointer (some ⟨g6,0,none⟩),undef,undef,undef,.pointer (some ⟨g10,0,none⟩),.int .i64 (s.nx*s.ny),.pointer (some ⟨g12,0,none⟩),.int .i64 j0,undef,undef,undef,.pointer (some ⟨b,0,none⟩),.pointer (some ⟨b,0,none⟩),.pointer (some ⟨b,0,none⟩),.pointer (some ⟨b,0,none⟩),.int .i64 s.nx,.pointer (some ⟨b,0,none⟩),.pointer (some ⟨b,0,none⟩),.pointer (some ⟨b,0,none⟩),.pointer (some ⟨b,1,none⟩),.int .i64 s.ny,.int .i64 (wrap64 (s.nx*s.ny)),.int .i64 t,.pointer (some ⟨b,0,none⟩),.pointer (some ⟨b,0,none⟩),.pointer (some ⟨b,0,none⟩),.pointer (some ⟨b,3,none⟩),.int .i64 s.slot,.int .i64 j0,undef,undef,undef,undef,undef,undef,undef,undef,undef,undef,undef,undef,undef,undef,undef,undef,undef,undef,undef,undef,undef,undef,undef,undef,undef,undef,undef,undef,undef,undef,undef,undef,undef,undef,undef,undef,undef,undef,undef,undef,undef,undef,undef,undef,undef,undef,undef,undef,undef,undef,undef,undef,undef,undef,undef,undef,undef]:Array Value).getD k undef),rfl,Lib.hid (by omega),Nat.zero_le _,Marks.nil _ _,m5,m6,m10,m12,mB⟩ ?_
 clear m5 m6 m10 m12 mB mT
 rintro a_ W ⟨q,j,Ds,u_,rfl,HJ,hq,hM,m5,m6,m10,m12,mB⟩
 have aCz:w.heap.size≤W.heap.size:=mB.size
 obtain ⟨A7,c7,A8,c8,mT,_,_,hc8,WJ⟩:=hT.below mB
 have cT3:=(aa mT 3).trans rfl
 have cT5:=(aa mT 5).trans rfl
 have Ir:=(aa m5 0).trans rfl
 have Rk:∀ o_,(W.alloc o_).cell? ⟨g6,0,none⟩ = some (.int .i64 x.f0.f0):=fun o_=>(aa (ag m6 o_) 0).trans rfl
 have Rl:∀ o_,(W.alloc o_).cell? ⟨g6,1,none⟩ = some (.int .i64 x.f0.f1):=fun o_=>(aa (ag m6 o_) 1).trans rfl
 have Rm:∀ o_,(W.alloc o_).cell? ⟨g6,2,none⟩ = some (.int .i64 x.f1.f0):=fun o_=>(aa (ag m6 o_) 2).trans rfl
 have Rn:∀ o_,(W.alloc o_).cell? ⟨g6,3,none⟩ = some (.int .i64 x.f1.f1):=fun o_=>(aa (ag m6 o_) 3).trans rfl
 have KS:∀ o_,(W.alloc o_).cell? ⟨g5,0,none⟩ = some (.pointer (some ⟨b,0,none⟩)):=fun o_=>(aa (ag m5 o_) 0).trans rfl
 have hjj:j0≤j:=by have:=HJ.out;omega
 by_cases hlt:j≤j1
 case neg =>
  have hqe:q = (j1+1 - j0).toNat:=by have:=HJ.out;omega
  have HQ:=Lib.hid hqe
  clear hqe KS Rk Rl Rm Rn
  have HRR:=HR.out
  rw [← HQ.out] at HRR
  have HR2:=Lib.hid HRR
  clear HRR
  generalize (iP s x layer j0 q) = L at*
  have Iu:=(aa m10 0).trans rfl
  have Uy:=aX m10 0
  have Iw:=(aa m10 1).trans rfl
  have Uz:=aX m10 1
  have Iy:=(aa m10 2).trans rfl
  have UA:=aX m10 2
  have Iz:=(aa m10 3).trans rfl
  have UB:=aX m10 3
  skip
  gi_wp2
  exact Iq (fun X=>iD X g10 #[.int .i64 (jT L).f0.f0,.int .i64 (jT L).f0.f1,.int .i64 (jT L).f1.f0,.int .i64 (jT L).f1.f1] 31∧Below w.heap.size w X) (fun X D_ h hB hD=>⟨(World.putObj_heap_other (fun e=>by have h1:=h.1;unfold iD at h1;rw [e,hD] at h1;cases h1)).trans h.1,h.2.trans (belowK_b (w:=w) (Nat.le_refl _) X D_ _ _ hB hD rfl rfl)⟩) (fun X h=>⟨_,results_cell_row rfl _ _ g10 31 #[.int .i64 (jT L).f0.f0,.int .i64 (jT L).f0.f1,.int .i64 (jT L).f1.f0,.int .i64 (jT L).f1.f1] (0,0) _ rfl h.1 Try.underlying31 rfl aR,by rw [HR2.out];rfl,h.2⟩) Ds _ (Marks.set (Marks.set (Marks.set (Marks.set hM m10 (i:=0) _) (aI m10 0 (.int .i64 (jT L).f0.f0) rfl) (i:=1) _) (aI (aI m10 0 (.int .i64 (jT L).f0.f0) rfl) 1 (.int .i64 (jT L).f0.f1) rfl) (i:=2) _) (aI (aI (aI m10 0 (.int .i64 (jT L).f0.f0) rfl) 1 (.int .i64 (jT L).f0.f1) rfl) 2 (.int .i64 (jT L).f1.f0) rfl) (i:=3) _) ⟨(aI (aI (aI (aI m10 0 (.int .i64 (jT L).f0.f0) rfl) 1 (.int .i64 (jT L).f0.f1) rfl) 2 (.int .i64 (jT L).f1.f0) rfl) 3 (.int .i64 (jT L).f1.f1) rfl),(Below.setCell (p:=⟨g10,3,none⟩) (Below.setCell (p:=⟨g10,2,none⟩) (Below.setCell (p:=⟨g10,1,none⟩) (Below.setCell (p:=⟨g10,0,none⟩) mB nX _) nX _) nX _) nX _)⟩
 case pos =>
  skip
  have hq2:q+1≤(j1+1 - j0).toNat:=by have:=HJ.out;omega
  have HJ2:Hid (j+1 = j0+((q+1:Nat):Int)):=Lib.hid (by have:=HJ.out;omega)
  have p1:=fI (show 0≤j by omega) (show j≤15 by omega) (show 0≤s.layers by omega) hla.2
  have p2:=fI (show 0≤j*s.layers+layer by omega) (show j*s.layers+layer≤50 by omega) hxy.1 hxy.2
  gi_wp2_with fail
  refine ⟨trivial,(callsIn_wide.2 (LU _ _ _)).mono ?_⟩
  rintro e W_ ⟨rfl,rfl⟩
  gi_wp2_with fail
  clear cT3 cT5 Ir KS Rk Rl Rm Rn
  have aIs:=hS.nx
  have hM0:Marks (((W.alloc (.cells #[.int .i64 ((j*s.layers+layer)*(s.nx*s.ny))] 3)).alloc (.cells #[.pointer (some ⟨b,0,none⟩)] 104)).alloc (.cells #[.int .i64 x.f0.f0,.int .i64 x.f0.f1,.int .i64 x.f1.f0,.int .i64 x.f1.f1] 31)) w.heap.size Ds:=hM.below (aY (aY (aY (Below.refl _ W) _) _) _)
  have Dj:=dV mT
  have KQ:=dV m5
  have Rj:=dV m6
  have OP:=dV m10
  have ac8:=dV m12
  have m14:iD (((W.alloc (.cells #[.int .i64 ((j*s.layers+layer)*(s.nx*s.ny))] 3)).alloc (.cells #[.pointer (some ⟨b,0,none⟩)] 104)).alloc (.cells #[.int .i64 x.f0.f0,.int .i64 x.f0.f1,.int .i64 x.f1.f0,.int .i64 x.f1.f1] 31)) (W.heap.size) #[.int .i64 ((j*s.layers+layer)*(s.nx*s.ny))] 3:=(ag (ag (by have h_:=fT W (.cells #[.int .i64 ((j*s.layers+layer)*(s.nx*s.ny))] 3);first|exact h_|(simp only [World.size_alloc] at h_;exact h_)) _) _)
  have mP:iD (((W.alloc (.cells #[.int .i64 ((j*s.layers+layer)*(s.nx*s.ny))] 3)).alloc (.cells #[.pointer (some ⟨b,0,none⟩)] 104)).alloc (.cells #[.int .i64 x.f0.f0,.int .i64 x.f0.f1,.int .i64 x.f1.f0,.int .i64 x.f1.f1] 31)) (W.heap.size+1) #[.pointer (some ⟨b,0,none⟩)] 104:=(ag (by have h_:=fT (W.alloc (.cells #[.int .i64 ((j*s.layers+layer)*(s.nx*s.ny))] 3)) (.cells #[.pointer (some ⟨b,0,none⟩)] 104);first|exact h_|(simp only [World.size_alloc] at h_;exact h_)) _)
  have mX:iD (((W.alloc (.cells #[.int .i64 ((j*s.layers+layer)*(s.nx*s.ny))] 3)).alloc (.cells #[.pointer (some ⟨b,0,none⟩)] 104)).alloc (.cells #[.int .i64 x.f0.f0,.int .i64 x.f0.f1,.int .i64 x.f1.f0,.int .i64 x.f1.f1] 31)) (W.heap.size+1+1) #[.int .i64 x.f0.f0,.int .i64 x.f0.f1,.int .i64 x.f1.f0,.int .i64 x.f1.f1] 31:=(by have h_:=fT ((W.alloc (.cells #[.int .i64 ((j*s.layers+layer)*(s.nx*s.ny))] 3)).alloc (.cells #[.pointer (some ⟨b,0,none⟩)] 104)) (.cells #[.int .i64 x.f0.f0,.int .i64 x.f0.f1,.int .i64 x.f1.f0,.int .i64 x.f1.f1] 31);first|exact h_|(simp only [World.size_alloc] at h_;exact h_))
  replace mT:iD (((W.alloc (.cells #[.int .i64 ((j*s.layers+layer)*(s.nx*s.ny))] 3)).alloc (.cells #[.pointer (some ⟨b,0,none⟩)] 104)).alloc (.cells #[.int .i64 x.f0.f0,.int .i64 x.f0.f1,.int .i64 x.f1.f0,.int .i64 x.f1.f1] 31)) b #[.int .i64 s.nx,.int .i64 s.ny,.int .i64 s.cell,.int .i64 s.slot,.int .i64 s.slots,.int .i64 s.layers,.int .i64 s.most,.slice A7 s.shores.length c7,.slice A8 s.currents.length c8,.int .i64 v.speed,.int .i64 v.dive,.int .i64 v.use.f0,.int .i64 v.use.f1,.int .i64 v.drift.f0,.int .i64 v.drift.f1,.int .i64 v.reserve] 110:=(ag (ag (ag mT _) _) _)
  replace m5:iD (((W.alloc (.cells #[.int .i64 ((j*s.layers+layer)*(s.nx*s.ny))] 3)).alloc (.cells #[.pointer (some ⟨b,0,none⟩)] 104)).alloc (.cells #[.int .i64 x.f0.f0,.int .i64 x.f0.f1,.int .i64 x.f1.f0,.int .i64 x.f1.f1] 31)) g5 #[.pointer (some ⟨b,0,none⟩)] 104:=(ag (ag (ag m5 _) _) _)
  replace m6:iD (((W.alloc (.cells #[.int .i64 ((j*s.layers+layer)*(s.nx*s.ny))] 3)).alloc (.cells #[.pointer (some ⟨b,0,none⟩)] 104)).alloc (.cells #[.int .i64 x.f0.f0,.int .i64 x.f0.f1,.int .i64 x.f1.f0,.int .i64 x.f1.f1] 31)) g6 #[.int .i64 x.f0.f0,.int .i64 x.f0.f1,.int .i64 x.f1.f0,.int .i64 x.f1.f1] 31:=(ag (ag (ag m6 _) _) _)
  replace m10:iD (((W.alloc (.cells #[.int .i64 ((j*s.layers+layer)*(s.nx*s.ny))] 3)).alloc (.cells #[.pointer (some ⟨b,0,none⟩)] 104)).alloc (.cells #[.int .i64 x.f0.f0,.int .i64 x.f0.f1,.int .i64 x.f1.f0,.int .i64 x.f1.f1] 31)) g10 #[.int .i64 (jT (iP s x layer j0 q)).f0.f0,.int .i64 (jT (iP s x layer j0 q)).f0.f1,.int .i64 (jT (iP s x layer j0 q)).f1.f0,.int .i64 (jT (iP s x layer j0 q)).f1.f1] 31:=(ag (ag (ag m10 _) _) _)
  replace m12:iD (((W.alloc (.cells #[.int .i64 ((j*s.layers+layer)*(s.nx*s.ny))] 3)).alloc (.cells #[.pointer (some ⟨b,0,none⟩)] 104)).alloc (.cells #[.int .i64 x.f0.f0,.int .i64 x.f0.f1,.int .i64 x.f1.f0,.int .i64 x.f1.f1] 31)) g12 #[.bool (qw (iP s x layer j0 q)).isNone] 4:=(ag (ag (ag m12 _) _) _)
  replace mB:Below w.heap.size w (((W.alloc (.cells #[.int .i64 ((j*s.layers+layer)*(s.nx*s.ny))] 3)).alloc (.cells #[.pointer (some ⟨b,0,none⟩)] 104)).alloc (.cells #[.int .i64 x.f0.f0,.int .i64 x.f0.f1,.int .i64 x.f1.f0,.int .i64 x.f1.f1] 31)):=(aY (aY (aY mB _) _) _)
  have nK:w.heap.size≤W.heap.size:=aCz
  generalize xV:(((W.alloc (.cells #[.int .i64 ((j*s.layers+layer)*(s.nx*s.ny))] 3)).alloc (.cells #[.pointer (some ⟨b,0,none⟩)] 104)).alloc (.cells #[.int .i64 x.f0.f0,.int .i64 x.f0.f1,.int .i64 x.f1.f0,.int .i64 x.f1.f1] 31)) = W0 at mT m5 m6 m10 m12 m14 mP mX mB hM0 ⊢
  clear xV
  generalize ame:W.heap.size = g14 at m14 mP mX ⊢
  have Yh:b≠g14:=by omega
  have IA:g5≠g14:=by omega
  have Yi:g6≠g14:=by omega
  have UC:g10≠g14:=by omega
  have UD:g12≠g14:=by omega
  have afU:g14≠b:=Yh.symm
  have mf:g14≠g5:=IA.symm
  have afV:g14≠g6:=Yi.symm
  have oF:g14≠g10:=UC.symm
  have Aa:g14≠g12:=UD.symm
  have aIt:w.heap.size≤g14:=by omega
  generalize hgP:g14+1 = gP at mP mX ⊢
  have ac9:b≠gP:=by omega
  have ada:g5≠gP:=by omega
  have adb:g6≠gP:=by omega
  have Yj:g10≠gP:=by omega
  have Yk:g12≠gP:=by omega
  have Yl:g14≠gP:=by omega
  have amf:gP≠b:=ac9.symm
  have amg:gP≠g5:=ada.symm
  have amh:gP≠g6:=adb.symm
  have qC:gP≠g10:=Yj.symm
  have DW:gP≠g12:=Yk.symm
  have afW:gP≠g14:=Yl.symm
  have hGP:w.heap.size≤gP:=by omega
  generalize hgX:gP+1 = gX at mX ⊢
  have ade:b≠gX:=by omega
  have adf:g5≠gX:=by omega
  have adg:g6≠gX:=by omega
  have Ym:g10≠gX:=by omega
  have Yn:g12≠gX:=by omega
  have Yo:g14≠gX:=by omega
  have Rb:gP≠gX:=by omega
  have ami:gX≠b:=ade.symm
  have amj:gX≠g5:=adf.symm
  have amk:gX≠g6:=adg.symm
  have qD:gX≠g10:=Ym.symm
  have DX:gX≠g12:=Yn.symm
  have afX:gX≠g14:=Yo.symm
  have ac1:gX≠gP:=Rb.symm
  have hGX:w.heap.size≤gX:=by omega
  clear nK Dj KQ Rj OP ac8
  try clear hgX
  try clear hgP
  try clear ame
  have Qu:w.heap.size≤W0.heap.size:=mB.size
  have hDs:∀ D_ ∈ Ds,D_ < W0.heap.size:=fun D_ h=>(Array.getElem?_eq_some_iff.1 (hM0.2 D_ h).2).1
  have HN:Hid (g5≠g10∧g5≠g12∧g6≠g10∧g6≠g12∧g14≠g10∧g14≠g12∧g10≠g12∧g12≠g10∧gP≠g10∧gX≠g10∧gP≠g12∧gX≠g12):=Lib.hid ⟨mK,Bo,mM,nG,oF,Aa,kz,jA,qC,qD,DW,DX⟩
  try clear Re KO MB rR Yh
  try clear ac9
  try clear ade
  try clear ac6
  try clear Dk mK Bo IA
  try clear ada
  try clear adf
  try clear WH
  try clear Rf mM nG Yi
  try clear adb
  try clear adg
  try clear Yg
  try clear Rh Ri kz UC
  try clear Yj
  try clear Ym
  try clear afR
  try clear afS afT jA UD
  try clear Yk
  try clear Yn
  try clear afU
  try clear mf afV oF Aa
  try clear Yl
  try clear Yo
  try clear amf
  try clear amg amh qC DW afW
  try clear Rb
  try clear ami
  try clear amj amk qD DX afX
  try clear ac1
  refine wpIn_rangeFunc_ownH rfl (by omega) (gf:=135) (lb:=#[.pointer (some ⟨gP,0,none⟩),.pointer (some ⟨gX,0,none⟩)]) rfl trivial (enters_of Try.func135 aR rfl)
   (encs:=fun c:zZ s=>#[.int .i64 c.1]) (Kp:=Gz w gP gX b x) (S:=acY s x) (Sp:=afO s x) (N:=(nW s x).length) (w0:=W0)
   (fun l J Jx X_ hW hJ _ hY h0=>LV 5 (by omega) l gP gX w b s v x hT hS hx (Gz w gP gX b x) (fun A B h hE=>⟨hE.1.trans h.1,h.2.1 hE.2.1,h.2.2 hE.2.2⟩) J Jx hY (fun f X Y h hB=>hJ f X Y none h ⟨hB.os,hB.tape,hB.output,hB.size,fun k hk _=>hB.block k hk⟩ (fun r e=>by cases e)) X_ ⟨dY mB hW,iD.KN mP hW,iD.KN mX hW⟩ h0) Gz.trans (Gz.put Qu (dV mP) (dV mX)) (Below.refl _ _) (fun _=>rfl)
   (fun pre W=>iD W g5 #[.pointer (some ⟨b,0,none⟩)] 104∧iD W g6 #[.int .i64 x.f0.f0,.int .i64 x.f0.f1,.int .i64 x.f1.f0,.int .i64 x.f1.f1] 31∧iD W g14 #[.int .i64 ((j*s.layers+layer)*(s.nx*s.ny))] 3∧iD W g10 #[.int .i64 (jT (iP s x layer j0 q++(pre.map fun c=>rQ s layer j c.1))).f0.f0,.int .i64 (jT (iP s x layer j0 q++(pre.map fun c=>rQ s layer j c.1))).f0.f1,.int .i64 (jT (iP s x layer j0 q++(pre.map fun c=>rQ s layer j c.1))).f1.f0,.int .i64 (jT (iP s x layer j0 q++(pre.map fun c=>rQ s layer j c.1))).f1.f1] 31∧iD W g12 #[.bool (qw (iP s x layer j0 q++(pre.map fun c=>rQ s layer j c.1))).isNone] 4∧Marks W w.heap.size Ds∧Below w.heap.size w W)
   (fun c pre W=>False)
   (OwnFrom.and (o9 _ _ (fun _=>_) _) (OwnFrom.and (o9 _ _ (fun _=>_) _) (OwnFrom.and (o9 _ _ (fun _=>_) _) (OwnFrom.and (o9 _ _ (fun pre:List (zZ s)=>#[.int .i64 (jT (iP s x layer j0 q++(pre.map fun c=>rQ s layer j c.1))).f0.f0,.int .i64 (jT (iP s x layer j0 q++(pre.map fun c=>rQ s layer j c.1))).f0.f1,.int .i64 (jT (iP s x layer j0 q++(pre.map fun c=>rQ s layer j c.1))).f1.f0,.int .i64 (jT (iP s x layer j0 q++(pre.map fun c=>rQ s layer j c.1))).f1.f1]) _) (OwnFrom.and (o9 _ _ (fun pre:List (zZ s)=>#[.bool (qw (iP s x layer j0 q++(pre.map fun c=>rQ s layer j c.1))).isNone]) _) (OwnFrom.and (PS _ _ Ds hDs) (ownFrom_below (by omega) (by omega))))))))
   (fun c pre X Y row hs hg hr=>hs)
   ⟨m5,m6,m14,by rw [List.map_nil,List.append_nil];exact m10,by rw [List.map_nil,List.append_nil];exact m12,hM0,mB⟩
   (fun c a' W=>∃ u_:Nat→Value,a' = { tmps:=#[(u_ 0),(u_ 1),(u_ 2),(u_ 3),(u_ 4),.pointer (some ⟨g5,0,none⟩),(u_ 6),(u_ 7),(u_ 8),(u_ 9),.pointer (some ⟨g10,0,none⟩),(u_ 11),.pointer (some ⟨g12,0,none⟩),(u_ 13),.pointer (some ⟨g14,0,none⟩),.int .i64 c.1,(u_ 16),(u_ 17),(u_ 18),(u_ 19),(u_ 20),(u_ 21),(u_ 22),(u_ 23),(u_ 24),(u_ 25),(u_ 26),(u_ 27),(u_ 28),(u_ 29),(u_ 30),(u_ 31),(u_ 32),(u_ 33),(u_ 34),(u_ 35),(u_ 36),(u_ 37),(u_ 38),(u_ 39),(u_ 40),(u_ 41),(u_ 42),(u_ 43),(u_ 44),(u_ 45),(u_ 46),(u_ 47),(u_ 48),(u_ 49),(u_ 50),(u_ 51),(u_ 52),(u_ 53),(u_ 54),(u_ 55),(u_ 56),(u_ 57),(u_ 58),(u_ 59),(u_ 60),(u_ 61),(u_ 62),(u_ 63),(u_ 64),(u_ 65),(u_ 66),(u_ 67),(u_ 68),(u_ 69),(u_ 70),(u_ 71),(u_ 72),(u_ 73),(u_ 74),(u_ 75),(u_ 76),(u_ 77),(u_ 78),(u_ 79),(u_ 80),(u_ 81),(u_ 82),(u_ 83),(u_ 84),(u_ 85),(u_ 86),(u_ 87),(u_ 88),(u_ 89),(u_ 90),(u_ 91)],defers:=[] })
   (fun c a' s X Y row hs hg hr=>hs) ?assign ?body ?done ?stop
  case assign =>
   rintro l pre c X_ K hI hK
   gi_wp2
   exact hK _ _ ((KeepsOthers.refl X_).from _) (Gz.below hI.2.2.2.2.2.2.size (Below.refl _ _)) hI ⟨(fun k=>(#[(u_ 0),(u_ 1),.int .i64 layer,(u_ 3),.int .i64 u,.pointer (some ⟨g5,0,none⟩),.pointer (some ⟨g6,0,none⟩),(u_ 7),(u_ 8),(u_ 9),.pointer (some ⟨g10,0,none⟩),.int .i64 (s.nx*s.ny),.pointer (some ⟨g12,0,none⟩),.int .i64 j,.pointer (some ⟨g14,0,none⟩),.int .i64 c.1,(u_ 16),(u_ 17),(u_ 18),(u_ 19),(u_ 20),(u_ 21),(u_ 22),(u_ 23),(u_ 24),(u_ 25),(u_ 26),(u_ 27),(u_ 28),(u_ 29),(u_ 30),(u_ 31),(u_ 32),(u_ 33),(u_ 34),.int .i64 j,.int .i64 u,.int .i64 (u - 1),.pointer (some ⟨b,0,none⟩),.pointer (some ⟨b,0,none⟩),.pointer (some ⟨b,0,none⟩),.pointer (some ⟨b,3,none⟩),.int .i64 s.slot,.int .i64 j1,.bool true,(u_ 45),(u_ 46),.int .i64 j,.pointer (some ⟨b,0,none⟩),.pointer (some ⟨b,0,none⟩),.pointer (some ⟨b,0,none⟩),.pointer (some ⟨b,5,none⟩),.int .i64 s.layers,.int .i64 (j*s.layers),.int .i64 layer,.int .i64 (j*s.layers+layer),.int .i64 (s.nx*s.ny),.int .i64 ((j*s.layers+layer)*(s.nx*s.ny)),.pointer (some ⟨b,0,none⟩),.agg #[.int .i64 x.f0.f0,.int .i64 x.f0.f1,.int .i64 x.f1.f0,.int .i64 x.f1.f1],.func (.func 135) #[] #[.pointer (some ⟨gP,0,none⟩),.pointer (some ⟨gX,0,none⟩)],.int .i64 c.1,(u_ 62),(u_ 63),(u_ 64),(u_ 65),(u_ 66),(u_ 67),(u_ 68),(u_ 69),(u_ 70),(u_ 71),(u_ 72),(u_ 73),(u_ 74),(u_ 75),(u_ 76),(u_ 77),(u_ 78),(u_ 79),(u_ 80),(u_ 81),(u_ 82),(u_ 83),(u_ 84),(u_ 85),(u_ 86),(u_ 87),(u_ 88),(u_ 89),(u_ 90),(u_ 91)]:Array Value).getD k undef),rfl⟩
  case stop =>
   rintro D_ c pre X_ hD hp h hK
   exact h.elim
  case done =>
   rintro D_ xs X_ hD hxs ⟨m5,m6,m14,m10,m12,hM,mB⟩ hK
   have hL:iP s x layer j0 q++xs.map (fun c=>rQ s layer j c.1) = iP s x layer j0 (q+1):=by rw [Uv];unfold slotL;rw [← (show xs.map Subtype.val = nW s x from hxs),List.map_map,← HJ.out];rfl
   rw [hL] at m10 m12
   clear hL
   have hM2:=hM.cons (fun h=>absurd (hDs D_ h) (Nat.not_lt.2 hD)) (Nat.le_trans Qu hD) hK
   gi_wp2
   skip
   exact ⟨⟨q+1,j+1,D_ :: Ds,(fun k=>(#[(u_ 0),(u_ 1),.int .i64 layer,(u_ 3),.int .i64 u,.pointer (some ⟨g5,0,none⟩),.pointer (some ⟨g6,0,none⟩),(u_ 7),(u_ 8),(u_ 9),.pointer (some ⟨g10,0,none⟩),.int .i64 (s.nx*s.ny),.pointer (some ⟨g12,0,none⟩),.int .i64 (j+1),.pointer (some ⟨g14,0,none⟩),(u_ 15),(u_ 16),(u_ 17),(u_ 18),(u_ 19),(u_ 20),(u_ 21),(u_ 22),(u_ 23),(u_ 24),(u_ 25),(u_ 26),(u_ 27),(u_ 28),(u_ 29),(u_ 30),(u_ 31),(u_ 32),(u_ 33),(u_ 34),.int .i64 j,.int .i64 u,.int .i64 (u - 1),.pointer (some ⟨b,0,none⟩),.pointer (some ⟨b,0,none⟩),.pointer (some ⟨b,0,none⟩),.pointer (some ⟨b,3,none⟩),.int .i64 s.slot,.int .i64 j1,.bool true,.int .i64 j,.int .i64 (j+1),.int .i64 j,.pointer (some ⟨b,0,none⟩),.pointer (some ⟨b,0,none⟩),.pointer (some ⟨b,0,none⟩),.pointer (some ⟨b,5,none⟩),.int .i64 s.layers,.int .i64 (j*s.layers),.int .i64 layer,.int .i64 (j*s.layers+layer),.int .i64 (s.nx*s.ny),.int .i64 ((j*s.layers+layer)*(s.nx*s.ny)),.pointer (some ⟨b,0,none⟩),.agg #[.int .i64 x.f0.f0,.int .i64 x.f0.f1,.int .i64 x.f1.f0,.int .i64 x.f1.f1],.func (.func 135) #[] #[.pointer (some ⟨gP,0,none⟩),.pointer (some ⟨gX,0,none⟩)],(u_ 61),(u_ 62),(u_ 63),(u_ 64),(u_ 65),(u_ 66),(u_ 67),(u_ 68),(u_ 69),(u_ 70),(u_ 71),(u_ 72),(u_ 73),(u_ 74),(u_ 75),(u_ 76),(u_ 77),(u_ 78),(u_ 79),(u_ 80),(u_ 81),(u_ 82),(u_ 83),(u_ 84),(u_ 85),(u_ 86),(u_ 87),(u_ 88),(u_ 89),(u_ 90),(u_ 91)]:Array Value).getD k undef),rfl,HJ2,hq2,hM2,m5,m6,m10,m12,mB⟩,by simp [intOf];omega⟩
  case body =>
   skip
   rintro l pre c a_ X_ hlW ⟨r,hr⟩ ⟨m5,m6,m14,m10,m12,hM,mB⟩ ⟨u_,rfl⟩ hlen
   have hXs:W0.heap.size≤X_.heap.size:=Nat.le_trans hlW (Nat.le_of_lt (dV hr))
   clear hr
   have hN:Below X_.heap.size X_ X_:=Below.refl _ _
   obtain ⟨A7,c7,A8,c8,mT,_,_,hc8,WJ⟩:=hT.below mB
   have hidx:=OL (q:=j) (l:=layer) (k:=s.nx*s.ny) (c:=c.1) (ll:=s.slots) (kk:=s.layers) (by omega) (by omega) hl0 hl1 c.2.1 c.2.2
   rw [← HCU.out] at hidx
   have HY:Hid (rQ s layer j c.1 = ⟨(aH s.currents ((j*s.layers+layer)*(s.nx*s.ny)+c.1)).f0,(aH s.currents ((j*s.layers+layer)*(s.nx*s.ny)+c.1)).f1⟩):=Lib.hid rfl
   obtain ⟨hi0,hi1⟩:=hidx
   obtain ⟨ad,e_,hy0,hy1,hy2,hy3⟩:=zR WJ _ hi0 hi1
   cases e_
   clear WJ
   generalize aH s.currents ((j*s.layers+layer)*(s.nx*s.ny)+c.1) = y at*
   generalize (j*s.layers+layer)*(s.nx*s.ny) = R at*
   have wR:wrap64 (R+c.1) = R+c.1:=by unfold wrap64;have:=c.2;omega
   have hm0:qw (iP s x layer j0 q++(pre.map fun c=>rQ s layer j c.1)) = qw (iP s x layer j0 q++(pre.map fun c=>rQ s layer j c.1)):=rfl
   generalize aoJ:(iP s x layer j0 q++(pre.map fun c=>rQ s layer j c.1)) = L at*
   have hLL:=Lib.hid aoJ
   clear hm0 aoJ
   gi_wp2_with fail
   replace mT:=ah mT
   replace m5:=ah m5
   replace m6:=ah m6
   replace m10:=ah m10
   replace m12:=ah m12
   replace m14:=ah m14
   replace mB:=bW mB
   replace hy0:=((bW (Below.refl X_.heap.size X_)).cell (World.block_lt_of_cell? X_ _ hy0)).trans hy0
   replace hy1:=((bW (Below.refl X_.heap.size X_)).cell (World.block_lt_of_cell? X_ _ hy1)).trans hy1
   replace hy2:=((bW (Below.refl X_.heap.size X_)).cell (World.block_lt_of_cell? X_ _ hy2)).trans hy2
   replace hy3:=((bW (Below.refl X_.heap.size X_)).cell (World.block_lt_of_cell? X_ _ hy3)).trans hy3
   replace hM:=hM.below (bW (Below.refl _ X_))
   replace hN:=bW hN
   refine adh (m:=25) (S:=fun w'=>w'.cell? ⟨g5,0,none⟩ = some (.pointer (some ⟨b,0,none⟩))∧w'.cell? ⟨g14,0,none⟩ = some (.int .i64 R)∧w'.cell? ⟨b,8,none⟩ = some (.slice (some ad) s.currents.length c8)∧w'.cell? (ad.add ((R+c.1).toNat*4)) = some (.int .i64 y.f0.f0)∧w'.cell? ⟨(ad.add ((R+c.1).toNat*4)).block,(ad.add ((R+c.1).toNat*4)).off+1,none⟩ = some (.int .i64 y.f0.f1)∧w'.cell? ⟨(ad.add ((R+c.1).toNat*4)).block,(ad.add ((R+c.1).toNat*4)).off+2,none⟩ = some (.int .i64 y.f1.f0)∧w'.cell? ⟨(ad.add ((R+c.1).toNat*4)).block,(ad.add ((R+c.1).toNat*4)).off+3,none⟩ = some (.int .i64 y.f1.f1)) (ds:=[24]) #[false,false,false,false,false,false,false,false,false,false,false,false,false,false,false,false,false,false,false,false,false,false,false,false,false] aR (Ro (Mh Rp)) aR rfl rfl ⟨((aa m5 0).trans rfl),((aa m14 0).trans rfl),((aa mT 8).trans rfl),hy0,hy1,hy2,hy3⟩ (fun hHeld=>?_)
   generalize hWd:World.drew _ = Wx at mB mT m5 m6 m10 m12 m14 hM hN hy0 hy1 hy2 hy3 hHeld ⊢
   clear hWd
   refine dJ (i:=6) (N:=some 68) aR ?_
   refine dJ (i:=17) (N:=some 79) aR ?_
   refine ja (i:=0) (N:=some 62) aR hHeld ?_
   refine dJ (i:=1) (N:=some 63) aR ?_
   refine dJ (i:=2) (N:=some 64) aR ?_
   refine dJ (i:=3) (N:=some 65) aR ?_
   refine ja (i:=4) (N:=some 66) aR hHeld ?_
   refine ja (i:=5) (N:=some 67) aR hHeld ?_
   refine dJ (i:=7) (N:=some 69) aR ?_
   refine dJ (i:=8) (N:=some 70) aR ?_
   refine dJ (i:=9) (N:=some 71) aR ?_
   refine ja (i:=10) (N:=some 72) aR hHeld ?_
   refine ja (i:=11) (N:=some 73) aR hHeld ?_
   refine dJ (i:=12) (N:=some 74) aR ?_
   refine dJ (i:=13) (N:=some 75) aR ?_
   refine dJ (i:=14) (N:=some 76) aR ?_
   refine ja (i:=15) (N:=some 77) aR hHeld ?_
   refine ja (i:=16) (N:=some 78) aR hHeld ?_
   refine dJ (i:=18) (N:=some 80) aR ?_
   refine dJ (i:=19) (N:=some 81) aR ?_
   refine dJ (i:=20) (N:=some 82) aR ?_
   refine ja (i:=21) (N:=some 83) aR hHeld ?_
   refine dJ (i:=22) (N:=some 84) aR ?_
   refine jq (i:=23) (N:=some 16) #[true,true,true,true,true,true,true,true,true,true,true,true,true,true,true,true,true,true,true,true,true,true,true,true,false] rfl rfl aR (by decide) (fun K hK=>?_)
   refine KT (w1:=?_) (v:=?_) (by rfl) rfl ?_ ?_
   rotate_left 2
   ·go_simp
    constructor
    ·rfl
    ·rfl
   refine hK.out _ _ ⟨((aa (ag m5 (.cells #[.int .i64 0,.int .i64 0,.int .i64 0,.int .i64 0] 31)) 0).trans rfl),((aa (ag m14 (.cells #[.int .i64 0,.int .i64 0,.int .i64 0,.int .i64 0] 31)) 0).trans rfl),((aa (ag mT (.cells #[.int .i64 0,.int .i64 0,.int .i64 0,.int .i64 0] 31)) 8).trans rfl),((aY (Below.refl Wx.heap.size Wx) (.cells #[.int .i64 0,.int .i64 0,.int .i64 0,.int .i64 0] 31)).cell (World.block_lt_of_cell? Wx _ hy0)).trans hy0,((aY (Below.refl Wx.heap.size Wx) (.cells #[.int .i64 0,.int .i64 0,.int .i64 0,.int .i64 0] 31)).cell (World.block_lt_of_cell? Wx _ hy1)).trans hy1,((aY (Below.refl Wx.heap.size Wx) (.cells #[.int .i64 0,.int .i64 0,.int .i64 0,.int .i64 0] 31)).cell (World.block_lt_of_cell? Wx _ hy2)).trans hy2,((aY (Below.refl Wx.heap.size Wx) (.cells #[.int .i64 0,.int .i64 0,.int .i64 0,.int .i64 0] 31)).cell (World.block_lt_of_cell? Wx _ hy3)).trans hy3⟩ (fun hHeld=>?_)
   clear hK K
   refine ek abp ?_
   refine Qv (i:=24) (N:=none) #[true,true,true,true,true,true,true,true,true,true,true,true,true,true,true,true,true,true,true,true,true,true,true,true,true] rfl rfl aR (by decide) (fun K hK=>?_)
   have PT:=fT Wx (.cells #[.int .i64 0,.int .i64 0,.int .i64 0,.int .i64 0] 31)
   have UE:=aX PT 0
   have UF:=aX PT 1
   have afY:=aX PT 2
   have afZ:=aX PT 3
   have UG:=(aa PT 0).trans rfl
   have UH:=(aa PT 1).trans rfl
   have af0:=(aa PT 2).trans rfl
   have af1:=(aa PT 3).trans rfl
   refine yc (w1:=?_) (by rfl) rfl ?_ ?_
   rotate_left
   ·go_simp
    rfl
   refine hK.out _ _ ?_
   clear hK K
   refine lC aR ?_
   try clear hHeld
   skip
   clear hy0 hy1 hy2 hy3 wR
   have Ux:w.heap.size≤Wx.heap.size:=mB.size
   have IB:W0.heap.size≤Wx.heap.size:=Nat.le_trans hXs hN.size
   replace hM:=hM.below (aY (Below.refl _ Wx) (.cells #[.int .i64 y.f0.f0,.int .i64 y.f0.f1,.int .i64 y.f1.f0,.int .i64 y.f1.f1] 31))
   replace hN:=dY hN (aY (Below.refl _ Wx) (.cells #[.int .i64 y.f0.f0,.int .i64 y.f0.f1,.int .i64 y.f1.f0,.int .i64 y.f1.f1] 31))
   have Dj:=dV mT
   have KQ:=dV m5
   have Rj:=dV m6
   have OP:=dV m10
   have ac8:=dV m12
   have aoK:=dV m14
   have m16:iD (Wx.alloc (.cells #[.int .i64 y.f0.f0,.int .i64 y.f0.f1,.int .i64 y.f1.f0,.int .i64 y.f1.f1] 31)) (Wx.heap.size) #[.int .i64 y.f0.f0,.int .i64 y.f0.f1,.int .i64 y.f1.f0,.int .i64 y.f1.f1] 31:=(by have h_:=fT Wx (.cells #[.int .i64 y.f0.f0,.int .i64 y.f0.f1,.int .i64 y.f1.f0,.int .i64 y.f1.f1] 31);first|exact h_|(simp only [World.size_alloc] at h_;exact h_))
   replace mT:iD (Wx.alloc (.cells #[.int .i64 y.f0.f0,.int .i64 y.f0.f1,.int .i64 y.f1.f0,.int .i64 y.f1.f1] 31)) b #[.int .i64 s.nx,.int .i64 s.ny,.int .i64 s.cell,.int .i64 s.slot,.int .i64 s.slots,.int .i64 s.layers,.int .i64 s.most,.slice A7 s.shores.length c7,.slice (some ad) s.currents.length c8,.int .i64 v.speed,.int .i64 v.dive,.int .i64 v.use.f0,.int .i64 v.use.f1,.int .i64 v.drift.f0,.int .i64 v.drift.f1,.int .i64 v.reserve] 110:=(ag mT _)
   replace m5:iD (Wx.alloc (.cells #[.int .i64 y.f0.f0,.int .i64 y.f0.f1,.int .i64 y.f1.f0,.int .i64 y.f1.f1] 31)) g5 #[.pointer (some ⟨b,0,none⟩)] 104:=(ag m5 _)
   replace m6:iD (Wx.alloc (.cells #[.int .i64 y.f0.f0,.int .i64 y.f0.f1,.int .i64 y.f1.f0,.int .i64 y.f1.f1] 31)) g6 #[.int .i64 x.f0.f0,.int .i64 x.f0.f1,.int .i64 x.f1.f0,.int .i64 x.f1.f1] 31:=(ag m6 _)
   replace m10:iD (Wx.alloc (.cells #[.int .i64 y.f0.f0,.int .i64 y.f0.f1,.int .i64 y.f1.f0,.int .i64 y.f1.f1] 31)) g10 #[.int .i64 (jT L).f0.f0,.int .i64 (jT L).f0.f1,.int .i64 (jT L).f1.f0,.int .i64 (jT L).f1.f1] 31:=(ag m10 _)
   replace m12:iD (Wx.alloc (.cells #[.int .i64 y.f0.f0,.int .i64 y.f0.f1,.int .i64 y.f1.f0,.int .i64 y.f1.f1] 31)) g12 #[.bool (qw L).isNone] 4:=(ag m12 _)
   replace m14:iD (Wx.alloc (.cells #[.int .i64 y.f0.f0,.int .i64 y.f0.f1,.int .i64 y.f1.f0,.int .i64 y.f1.f1] 31)) g14 #[.int .i64 R] 3:=(ag m14 _)
   replace mB:Below w.heap.size w (Wx.alloc (.cells #[.int .i64 y.f0.f0,.int .i64 y.f0.f1,.int .i64 y.f1.f0,.int .i64 y.f1.f1] 31)):=(aY mB _)
   have nK:w.heap.size≤Wx.heap.size:=Ux
   generalize xV:(Wx.alloc (.cells #[.int .i64 y.f0.f0,.int .i64 y.f0.f1,.int .i64 y.f1.f0,.int .i64 y.f1.f1] 31)) = W3 at mT m5 m6 m10 m12 m14 m16 mB hM hN ⊢
   clear xV
   generalize aCA:Wx.heap.size = g16 at m16 IB ⊢
   have Yp:b≠g16:=by omega
   have wz:g5≠g16:=by omega
   have wB:g6≠g16:=by omega
   have jU:g10≠g16:=by omega
   have rT:g12≠g16:=by omega
   have rU:g14≠g16:=by omega
   have af2:g16≠b:=Yp.symm
   have af3:g16≠g5:=wz.symm
   have af4:g16≠g6:=wB.symm
   have aoL:g16≠g10:=jU.symm
   have aoM:g16≠g12:=rT.symm
   have adi:g16≠g14:=rU.symm
   have UI:w.heap.size≤g16:=by omega
   clear nK Dj KQ Rj OP ac8 aoK
   try clear aCA
   have LW:w.heap.size≤W3.heap.size:=mB.size
   have hNS:=HN.out
   obtain ⟨_,_,_,_,_,_,kz,jA,_⟩:=hNS
   have HN2:Hid (g5≠g16∧g6≠g16∧g14≠g16):=Lib.hid ⟨wz,wB,rU⟩
   try clear Yp af2
   try clear wz af3
   try clear wB af4
   try clear rU adi
   have hd_:1≤6 - 1 - 1:=by decide
   have hmx:Try.prog.follows .mixedOrders = true:=by kernel_rfl
   cases hO:qw L with
   |none =>
    rw [hO] at m12
    have HO:=Lib.hid hO
    clear hO
    obtain ⟨adj,adk,adl,adm⟩:=rV m16
    obtain ⟨Iu,Iw,Iy,Iz⟩:=rV m10
    have adn:=(aa m12 0).trans rfl
    obtain ⟨Uy,Uz,UA,UB⟩:=af5 m10
    have aoN:=aX m12 0
    skip
    gi_wp2
    clear kz jA
    obtain ⟨mK,Bo,mM,nG,oF,Aa,kz,jA,qC,qD,DW,DX⟩:=HN.out
    obtain ⟨wz,wB,rU⟩:=HN2.out
    have hE:rQ s layer j c.1 = ⟨y.f0,y.f1⟩:=HY.out
    have hmap:iP s x layer j0 q++List.map (fun c=>rQ s layer j c.1) (pre++[c]) = L++[(⟨y.f0,y.f1⟩:gz)]:=by rw [List.map_append,List.map_singleton,← List.append_assoc,hLL.out,hE]
    refine ⟨(CX hN).trans ((((((KeepsOthers.setCell _ _ _).trans (KeepsOthers.setCell _ _ _)).trans (KeepsOthers.setCell _ _ _)).trans (KeepsOthers.setCell _ _ _)).trans (KeepsOthers.setCell _ _ _)).from _),(Gz.set (p:=⟨g12,0,none⟩) (Gz.set (p:=⟨g10,3,none⟩) (Gz.set (p:=⟨g10,2,none⟩) (Gz.set (p:=⟨g10,1,none⟩) (Gz.set (p:=⟨g10,0,none⟩) (Gz.below (Nat.le_trans Qu hXs) hN) nX qC qD _) nX qC qD _) nX qC qD _) nX qC qD _) KR DW DX _),?_⟩
    dsimp only
    rw [hmap]
    unfold jT
    rw [OM HO.out]
    exact ⟨(aM (p:=⟨g12,0,none⟩) (aM (p:=⟨g10,3,none⟩) (aM (p:=⟨g10,2,none⟩) (aM (p:=⟨g10,1,none⟩) (aM (p:=⟨g10,0,none⟩) m5 mK _) mK _) mK _) mK _) Bo _),(aM (p:=⟨g12,0,none⟩) (aM (p:=⟨g10,3,none⟩) (aM (p:=⟨g10,2,none⟩) (aM (p:=⟨g10,1,none⟩) (aM (p:=⟨g10,0,none⟩) m6 mM _) mM _) mM _) mM _) nG _),(aM (p:=⟨g12,0,none⟩) (aM (p:=⟨g10,3,none⟩) (aM (p:=⟨g10,2,none⟩) (aM (p:=⟨g10,1,none⟩) (aM (p:=⟨g10,0,none⟩) m14 oF _) oF _) oF _) oF _) Aa _),(aM (p:=⟨g12,0,none⟩) (aI (aI (aI (aI m10 0 (.int .i64 y.f0.f0) rfl) 1 (.int .i64 y.f0.f1) rfl) 2 (.int .i64 y.f1.f0) rfl) 3 (.int .i64 y.f1.f1) rfl) kz _),(aI (aM (p:=⟨g10,3,none⟩) (aM (p:=⟨g10,2,none⟩) (aM (p:=⟨g10,1,none⟩) (aM (p:=⟨g10,0,none⟩) m12 jA _) jA _) jA _) jA _) 0 (.bool false) rfl),(Marks.set (Marks.set (Marks.set (Marks.set (Marks.set hM m10 (i:=0) _) (aI m10 0 (.int .i64 y.f0.f0) rfl) (i:=1) _) (aI (aI m10 0 (.int .i64 y.f0.f0) rfl) 1 (.int .i64 y.f0.f1) rfl) (i:=2) _) (aI (aI (aI m10 0 (.int .i64 y.f0.f0) rfl) 1 (.int .i64 y.f0.f1) rfl) 2 (.int .i64 y.f1.f0) rfl) (i:=3) _) (aM (p:=⟨g10,3,none⟩) (aM (p:=⟨g10,2,none⟩) (aM (p:=⟨g10,1,none⟩) (aM (p:=⟨g10,0,none⟩) m12 jA _) jA _) jA _) jA _) (i:=0) _),(Below.setCell (p:=⟨g12,0,none⟩) (Below.setCell (p:=⟨g10,3,none⟩) (Below.setCell (p:=⟨g10,2,none⟩) (Below.setCell (p:=⟨g10,1,none⟩) (Below.setCell (p:=⟨g10,0,none⟩) mB nX _) nX _) nX _) nX _) KR _)⟩
   |some z =>
    have hz_:jT L = z:=by unfold jT;rw [hO];rfl
    rw [hO] at m12
    rw [hz_] at m10
    have HO:=Lib.hid hO
    clear hO hz_
    obtain ⟨adj,adk,adl,adm⟩:=rV m16
    obtain ⟨Iu,Iw,Iy,Iz⟩:=rV m10
    have adn:=(aa m12 0).trans rfl
    gi_wp2_with fail
    clear adj adk adl adm Iu Iw Iy Iz adn
    have hcon:=ac5 z ⟨y.f0,y.f1⟩ W3
    refine ⟨trivial,(CallsIn.inRound l (callsIn_wide.2 hcon)).mono ?_⟩
    clear hcon
    rintro e W4 ⟨rfl,hb⟩
    generalize hH:vW z ⟨y.f0,y.f1⟩ = h_ at*
    have HH:=Lib.hid hH
    clear hH
    replace hM:=hM.below hb
    replace hN:=dY hN hb
    replace mT:=aV mT hb
    replace m5:=aV m5 hb
    replace m6:=aV m6 hb
    replace m10:=aV m10 hb
    replace m12:=aV m12 hb
    replace m14:=aV m14 hb
    replace m16:=aV m16 hb
    replace mB:=dY mB hb
    clear hb
    have UJ:w.heap.size≤W4.heap.size:=mB.size
    obtain ⟨adj,adk,adl,adm⟩:=rV m16
    obtain ⟨Iu,Iw,Iy,Iz⟩:=rV m10
    have adn:=(aa m12 0).trans rfl
    obtain ⟨aEJ,aEK,aEL,aEM⟩:=af5 m16
    obtain ⟨Uy,Uz,UA,UB⟩:=af5 m10
    have aoN:=aX m12 0
    skip
    gi_wp2
    clear kz jA
    obtain ⟨mK,Bo,mM,nG,oF,Aa,kz,jA,qC,qD,DW,DX⟩:=HN.out
    obtain ⟨wz,wB,rU⟩:=HN2.out
    have hE:rQ s layer j c.1 = ⟨y.f0,y.f1⟩:=HY.out
    have hmap:iP s x layer j0 q++List.map (fun c=>rQ s layer j c.1) (pre++[c]) = L++[(⟨y.f0,y.f1⟩:gz)]:=by rw [List.map_append,List.map_singleton,← List.append_assoc,hLL.out,hE]
    refine ⟨(CX hN).trans ((((((((((KeepsOthers.setCell _ _ _).trans (KeepsOthers.setCell _ _ _)).trans (KeepsOthers.setCell _ _ _)).trans (KeepsOthers.setCell _ _ _)).trans (KeepsOthers.setCell _ _ _)).trans (KeepsOthers.setCell _ _ _)).trans (KeepsOthers.setCell _ _ _)).trans (KeepsOthers.setCell _ _ _)).trans (KeepsOthers.setCell _ _ _)).from _),(Gz.set (p:=⟨g12,0,none⟩) (Gz.set (p:=⟨g10,3,none⟩) (Gz.set (p:=⟨g10,2,none⟩) (Gz.set (p:=⟨g10,1,none⟩) (Gz.set (p:=⟨g10,0,none⟩) (Gz.set (p:=⟨g16,3,none⟩) (Gz.set (p:=⟨g16,2,none⟩) (Gz.set (p:=⟨g16,1,none⟩) (Gz.set (p:=⟨g16,0,none⟩) (Gz.below (Nat.le_trans Qu hXs) hN) UI (Nat.ne_of_lt (Nat.lt_of_lt_of_le (dV mP) IB)) (Nat.ne_of_lt (Nat.lt_of_lt_of_le (dV mX) IB)) _) UI (Nat.ne_of_lt (Nat.lt_of_lt_of_le (dV mP) IB)) (Nat.ne_of_lt (Nat.lt_of_lt_of_le (dV mX) IB)) _) UI (Nat.ne_of_lt (Nat.lt_of_lt_of_le (dV mP) IB)) (Nat.ne_of_lt (Nat.lt_of_lt_of_le (dV mX) IB)) _) UI (Nat.ne_of_lt (Nat.lt_of_lt_of_le (dV mP) IB)) (Nat.ne_of_lt (Nat.lt_of_lt_of_le (dV mX) IB)) _) nX qC qD _) nX qC qD _) nX qC qD _) nX qC qD _) KR DW DX _),?_⟩
    dsimp only
    rw [hmap]
    unfold jT
    rw [OO HO.out]
    rw [HH.out]
    exact ⟨(aM (p:=⟨g12,0,none⟩) (aM (p:=⟨g10,3,none⟩) (aM (p:=⟨g10,2,none⟩) (aM (p:=⟨g10,1,none⟩) (aM (p:=⟨g10,0,none⟩) (aM (p:=⟨g16,3,none⟩) (aM (p:=⟨g16,2,none⟩) (aM (p:=⟨g16,1,none⟩) (aM (p:=⟨g16,0,none⟩) m5 wz _) wz _) wz _) wz _) mK _) mK _) mK _) mK _) Bo _),(aM (p:=⟨g12,0,none⟩) (aM (p:=⟨g10,3,none⟩) (aM (p:=⟨g10,2,none⟩) (aM (p:=⟨g10,1,none⟩) (aM (p:=⟨g10,0,none⟩) (aM (p:=⟨g16,3,none⟩) (aM (p:=⟨g16,2,none⟩) (aM (p:=⟨g16,1,none⟩) (aM (p:=⟨g16,0,none⟩) m6 wB _) wB _) wB _) wB _) mM _) mM _) mM _) mM _) nG _),(aM (p:=⟨g12,0,none⟩) (aM (p:=⟨g10,3,none⟩) (aM (p:=⟨g10,2,none⟩) (aM (p:=⟨g10,1,none⟩) (aM (p:=⟨g10,0,none⟩) (aM (p:=⟨g16,3,none⟩) (aM (p:=⟨g16,2,none⟩) (aM (p:=⟨g16,1,none⟩) (aM (p:=⟨g16,0,none⟩) m14 rU _) rU _) rU _) rU _) oF _) oF _) oF _) oF _) Aa _),(aM (p:=⟨g12,0,none⟩) (aI (aI (aI (aI (aM (p:=⟨g16,3,none⟩) (aM (p:=⟨g16,2,none⟩) (aM (p:=⟨g16,1,none⟩) (aM (p:=⟨g16,0,none⟩) m10 jU _) jU _) jU _) jU _) 0 (.int .i64 h_.f0.f0) rfl) 1 (.int .i64 h_.f0.f1) rfl) 2 (.int .i64 h_.f1.f0) rfl) 3 (.int .i64 h_.f1.f1) rfl) kz _),(aI (aM (p:=⟨g10,3,none⟩) (aM (p:=⟨g10,2,none⟩) (aM (p:=⟨g10,1,none⟩) (aM (p:=⟨g10,0,none⟩) (aM (p:=⟨g16,3,none⟩) (aM (p:=⟨g16,2,none⟩) (aM (p:=⟨g16,1,none⟩) (aM (p:=⟨g16,0,none⟩) m12 rT _) rT _) rT _) rT _) jA _) jA _) jA _) jA _) 0 (.bool false) rfl),(Marks.set (Marks.set (Marks.set (Marks.set (Marks.set (Marks.set (Marks.set (Marks.set (Marks.set hM m16 (i:=0) _) (aI m16 0 (.int .i64 h_.f0.f0) rfl) (i:=1) _) (aI (aI m16 0 (.int .i64 h_.f0.f0) rfl) 1 (.int .i64 h_.f0.f1) rfl) (i:=2) _) (aI (aI (aI m16 0 (.int .i64 h_.f0.f0) rfl) 1 (.int .i64 h_.f0.f1) rfl) 2 (.int .i64 h_.f1.f0) rfl) (i:=3) _) (aM (p:=⟨g16,3,none⟩) (aM (p:=⟨g16,2,none⟩) (aM (p:=⟨g16,1,none⟩) (aM (p:=⟨g16,0,none⟩) m10 jU _) jU _) jU _) jU _) (i:=0) _) (aI (aM (p:=⟨g16,3,none⟩) (aM (p:=⟨g16,2,none⟩) (aM (p:=⟨g16,1,none⟩) (aM (p:=⟨g16,0,none⟩) m10 jU _) jU _) jU _) jU _) 0 (.int .i64 h_.f0.f0) rfl) (i:=1) _) (aI (aI (aM (p:=⟨g16,3,none⟩) (aM (p:=⟨g16,2,none⟩) (aM (p:=⟨g16,1,none⟩) (aM (p:=⟨g16,0,none⟩) m10 jU _) jU _) jU _) jU _) 0 (.int .i64 h_.f0.f0) rfl) 1 (.int .i64 h_.f0.f1) rfl) (i:=2) _) (aI (aI (aI (aM (p:=⟨g16,3,none⟩) (aM (p:=⟨g16,2,none⟩) (aM (p:=⟨g16,1,none⟩) (aM (p:=⟨g16,0,none⟩) m10 jU _) jU _) jU _) jU _) 0 (.int .i64 h_.f0.f0) rfl) 1 (.int .i64 h_.f0.f1) rfl) 2 (.int .i64 h_.f1.f0) rfl) (i:=3) _) (aM (p:=⟨g10,3,none⟩) (aM (p:=⟨g10,2,none⟩) (aM (p:=⟨g10,1,none⟩) (aM (p:=⟨g10,0,none⟩) (aM (p:=⟨g16,3,none⟩) (aM (p:=⟨g16,2,none⟩) (aM (p:=⟨g16,1,none⟩) (aM (p:=⟨g16,0,none⟩) m12 rT _) rT _) rT _) rT _) jA _) jA _) jA _) jA _) (i:=0) _),(Below.setCell (p:=⟨g12,0,none⟩) (Below.setCell (p:=⟨g10,3,none⟩) (Below.setCell (p:=⟨g10,2,none⟩) (Below.setCell (p:=⟨g10,1,none⟩) (Below.setCell (p:=⟨g10,0,none⟩) (Below.setCell (p:=⟨g16,3,none⟩) (Below.setCell (p:=⟨g16,2,none⟩) (Below.setCell (p:=⟨g16,1,none⟩) (Below.setCell (p:=⟨g16,0,none⟩) mB UI _) UI _) UI _) UI _) nX _) nX _) nX _) nX _) KR _)⟩
end Go.Proofs.Ytmhaiihjfgfaoaa.Gl
end
