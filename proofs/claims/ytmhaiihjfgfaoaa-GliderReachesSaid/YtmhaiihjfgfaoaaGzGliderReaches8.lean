import Derived.Test.YtmhaiihjfgfaoaaGzGliderReaches3
import Derived.Test.YtmhaiihjfgfaoaaGzGliderReaches7
open Go.Value renaming int → U
open Go.IntKind renaming i64 → Z
open Bool renaming true → ab, false → ac
section
namespace Go.Proofs.Ytmhaiihjfgfaoaa.Gl
open Go.RowKit Go.Shelf Go.Proofs.YtmhaiihjfgfaoaaW.PrintWords Go.Proofs.YtmhaiihjfgfaoaaW.PrintLast Go.Proofs.YtmhaiihjfgfaoaaW.PrintMore Go.Proofs.Ytmhaiihjfgfaoaa.Pr Go.Proofs.YtmhaiihjfgfaoaaW.Round
set_option linter.unusedVariables false
set_option linter.unusedSimpArgs false
attribute [local go_sem] eD eF fD fE eG
attribute [local go_sem] Oper.semAt_some
theorem Gz (a b:Int):mn a b = min a b:=by unfold mn;split <;> omega
theorem Cq (a b:Int):mx a b = max a b:=by unfold mx;split <;> omega
def oJ (a b:dO):dO:=⟨⟨min a.f0.f0 b.f0.f0,max a.f0.f1 b.f0.f1⟩,⟨min a.f1.f0 b.f1.f0,max a.f1.f1 b.f1.f1⟩⟩
def Y8 (o:Option dO) (y:dO):Option dO:=some (match o with|none=>y|some z=>oJ z y)
def uR (l:List dO):Option dO:=l.foldl Y8 none
theorem KR (l:List dO) (y:dO):uR (l++[y]) = Y8 (uR l) y:=by unfold uR;rw [List.foldl_append];rfl
def Aa (s:j3) (layer j c:Int):dO:=⟨(bu s.currents ((j*s.layers+layer)*(s.nx*s.ny)+c)).f0,(bu s.currents ((j*s.layers+layer)*(s.nx*s.ny)+c)).f1⟩
def slotL (s:j3) (x:dO) (layer j:Int):List dO:=(uA s x).map (Aa s layer j)
def je (s:j3) (x:dO) (layer j0:Int) (q:Nat):List dO:=(List.range q).flatMap fun r:Nat=>slotL s x layer (j0+(r:Int))
theorem Zt (s:j3) (x:dO) (layer j0:Int) (q:Nat):je s x layer j0 (q+1) = je s x layer j0 q++slotL s x layer (j0+(q:Int)):=by
 unfold je
 rw [List.range_succ,List.flatMap_append,List.flatMap_singleton]
def SB (s:j3) (x:dO) (layer t u:Int):dO:=(uR (je s x layer (t / s.slot) ((u - 1) / s.slot+1 - t / s.slot).toNat)).getD z31
def Kq (w:World) (bp bx b:Nat) (x:dO) (A B:World):Prop:=Below w.heap.size A B∧(eT A bp #[.pointer (some ⟨b,0,none⟩)] 104→eT B bp #[.pointer (some ⟨b,0,none⟩)] 104)∧(eT A bx #[U Z x.f0.f0,U Z x.f0.f1,U Z x.f1.f0,U Z x.f1.f1] 31→eT B bx #[U Z x.f0.f0,U Z x.f0.f1,U Z x.f1.f0,U Z x.f1.f1] 31)
theorem Kq.trans {w:World} {bp bx b:Nat} {x:dO} {A B C:World} (h:Kq w bp bx b x A B) (k:Kq w bp bx b x B C):Kq w bp bx b x A C:=⟨h.1.trans k.1,fun q=>k.2.1 (h.2.1 q),fun q=>k.2.2 (h.2.2 q)⟩
theorem Kq.put {w W0:World} {bp bx b:Nat} {x:dO} (hw:w.heap.size≤W0.heap.size) (hp:bp < W0.heap.size) (hx:bx < W0.heap.size) (W:World) (l:Nat) (o o':Obj) (hl:W0.heap.size≤l) (h:W.heap[l]? = some o) (h1:o.isCells = false) (h2:o.isWalk = false):Kq w bp bx b x W (W.putObj l o') :=
 ⟨belowK_b hw W l o o' hl h h1 h2,fun q=>(World.putObj_heap_other (by omega)).trans q,fun q=>(World.putObj_heap_other (by omega)).trans q⟩
theorem Kq.below {w:World} {bp bx b:Nat} {x:dO} {A B:World} (hw:w.heap.size≤A.heap.size) (h:Below A.heap.size A B):Kq w bp bx b x A B:=⟨h.mono hw,fun q=>eT.zZ q h,fun q=>eT.zZ q h⟩
theorem Kq.set {w:World} {bp bx b:Nat} {x:dO} {A B:World} (h:Kq w bp bx b x A B) {p:Addr} (hp:w.heap.size≤p.block) (h1:bp≠p.block) (h2:bx≠p.block) (u:Value):Kq w bp bx b x A (B.setCell p u):=⟨h.1.setCell hp u,fun q=>aj (h.2.1 q) h1 u,fun q=>aj (h.2.2 q) h2 u⟩
def mark (D_:Nat):Deferred:={ target:=.collected D_,args:=#[] }
def Marks (W:World) (B:Nat) (Ds:List Nat):Prop:=Ds.Nodup∧∀ D_ ∈ Ds,B≤D_∧W.heap[D_]? = some (.deferred (some []))
theorem Marks.nil (W:World) (B:Nat):Marks W B []:=⟨List.nodup_nil,fun D_ h=>by cases h⟩
theorem Marks.below {W W1:World} {B:Nat} {Ds:List Nat} (h:Marks W B Ds) (hb:Below W.heap.size W W1):Marks W1 B Ds :=
 ⟨h.1,fun D_ hD=>⟨(h.2 D_ hD).1,(hb.block D_ (Array.getElem?_eq_some_iff.1 (h.2 D_ hD).2).1).trans (h.2 D_ hD).2⟩⟩
theorem Marks.cons {W:World} {B D_:Nat} {Ds:List Nat} (h:Marks W B Ds) (hn:D_ ∉ Ds) (hB:B≤D_) (hD:W.heap[D_]? = some (.deferred (some []))):Marks W B (D_ :: Ds) :=
 ⟨List.nodup_cons.2 ⟨hn,h.1⟩,fun E hE=>by
  rcases List.mem_cons.1 hE with rfl|hE
  ·exact ⟨hB,hD⟩
  ·exact h.2 E hE⟩
theorem Marks.set {W:World} {B:Nat} {Ds:List Nat} (h:Marks W B Ds) {g i:Nat} {cs:Array Value} {t:TypeId} (hg:W.heap[g]? = some (.cells cs t (0,0))) (u:Value):Marks (W.setCell ⟨g,i,none⟩ u) B Ds :=
 ⟨h.1,fun D_ hD=>⟨(h.2 D_ hD).1,(Below.heap_setCell _ _ _ D_ (fun e=>by
  have h2:=(h.2 D_ hD).2
  rw [show D_ = g from e,hg] at h2
  cases h2)).trans (h.2 D_ hD).2⟩⟩
theorem DW {β:Type} (B B0:Nat) (Ds:List Nat) (h:∀ D_ ∈ Ds,D_ < B):OwnFrom B (fun (_:β) W=>Marks W B0 Ds):=fun s X Y row hs hg hr =>
 ⟨hs.1,fun D_ hD=>⟨(hs.2 D_ hD).1,(hg.block D_ (Array.getElem?_eq_some_iff.1 (hs.2 D_ hD).2).1 (fun e=>by have h1:=(hr D_ e.symm).1;have h2:=h D_ hD;omega)).trans (hs.2 D_ hD).2⟩⟩
theorem oK {P:Program} {F:Fence} {n:Nat} {fn:Func} {tmps:Array Value} {R:Ending→World→Prop} {B:Nat} (I:World→Prop) (hI:∀ W D_,I W→B≤D_→W.heap[D_]? = some (.deferred (some []))→I (W.putObj D_ (.deferred none)))
 (hend:∀ W,I W→LeavesInM F n P fn tmps R [] .returning W):∀ (Ds:List Nat) (W:World),Marks W B Ds→I W→LeavesInM F n P fn tmps R (Ds.map mark) .returning W
 |[],W,_,h=>hend W h
 |D_ :: Ds,W,hM,h=>by
  have hD:=hM.2 D_ List.mem_cons_self
  refine ⟨by simp,.inl ⟨D_,_,rfl,run_takeDeferred hD.2,?_⟩⟩
  refine oK I hI hend Ds _ ⟨(List.nodup_cons.1 hM.1).2,fun E hE=>?_⟩ (hI W D_ h hD.1 hD.2)
  have hE2:=hM.2 E (List.mem_cons_of_mem _ hE)
  have hne:E≠D_:=fun e=>(List.nodup_cons.1 hM.1).1 (e ▸ hE)
  exact ⟨hE2.1,(World.putObj_heap_other (fun e=>hne e)).trans hE2.2⟩
theorem Ze {q l k c ll kk:Int} (h0:0≤q) (h1:q < ll) (h2:0≤l) (h3:l < kk) (h4:0≤c) (h5:c < k):0≤(q*kk+l)*k+c∧(q*kk+l)*k+c < ll*kk*k:=by
 have a0:0≤q*kk:=Int.mul_nonneg h0 (by omega)
 have a1:0≤(q*kk+l)*k:=Int.mul_nonneg (by omega) (by omega)
 have a2:(q+1)*kk≤ll*kk:=Int.mul_le_mul_of_nonneg_right (by omega) (by omega)
 rw [Int.add_mul,Int.one_mul] at a2
 have a3:(q*kk+l+1)*k≤ll*kk*k:=Int.mul_le_mul_of_nonneg_right (by omega) (by omega)
 rw [Int.add_mul,Int.one_mul] at a3
 omega
def kg (l:List dO):dO:=(uR l).getD z31
theorem Sz {l:List dO} {y:dO} (h:uR l = none):uR (l++[y]) = some y:=by rw [KR,h];rfl
theorem SA {l:List dO} {y z:dO} (h:uR l = some z):uR (l++[y]) = some (oJ z y):=by rw [KR,h];rfl
theorem YT (a c:dO) (w:World):Calls Try.prog 119 #[.agg #[U Z a.f0.f0,U Z a.f0.f1,U Z a.f1.f0,U Z a.f1.f1],.agg #[U Z c.f0.f0,U Z c.f0.f1,U Z c.f1.f0,U Z c.f1.f1]] w
 (sI (.agg #[U Z (oJ a c).f0.f0,U Z (oJ a c).f0.f1,U Z (oJ a c).f1.f0,U Z (oJ a c).f1.f1]) w) :=
 Dx.calls _ _ _ _ _ _ _ _ _ _ _ _ w (by unfold Dx.f oJ;simp only [Gz,Cq])
set_option maxRecDepth 100000 in
set_option maxHeartbeats 8000000 in
theorem auH (b:Nat) (s:j3) (v:nz) (x:dO) (layer t u:Int) (w:World) (hT:jo w b s v) (hS:Dy s) (hx:Ty s x) (hcu:(s.currents.length:Int) = s.slots*s.layers*(s.nx*s.ny)) (hl0:0≤layer) (hl1:layer < s.layers) (ht0:0≤t) (ht1:t < u) (ht2:u≤s.slots*s.slot):
 Calls Try.prog 70 #[.pointer (some ⟨b,0,none⟩),.agg #[U Z x.f0.f0,U Z x.f0.f1,U Z x.f1.f0,U Z x.f1.f1],U Z layer,U Z t,U Z u] w (sI (.agg #[U Z (SB s x layer t u).f0.f0,U Z (SB s x layer t u).f0.f1,U Z (SB s x layer t u).f1.f0,U Z (SB s x layer t u).f1.f1]) w):=by
 have oP:=Try.underlying31
 have hxy:=iF (show 0≤s.nx by have:=hS.nx;omega) hS.nx.2 (show 0≤s.ny by have:=hS.ny;omega) hS.ny.2
 have hss:=iF (show 0≤s.slots by have:=hS.slots;omega) hS.slots.2 (show 0≤s.slot by have:=hS.slot;omega) hS.slot.2
 have hsl:=hS.slot
 have hso:=hS.slots
 have hla:=hS.layers
 have hcl:s.currents.length≤10000:=by
  have h1:=iF (show 0≤s.slots by omega) hso.2 (show 0≤s.layers by omega) hla.2
  have h2:=iF h1.1 h1.2 hxy.1 hxy.2
  omega
 have HCU:=Lib.hid hcu
 clear hcu
 have hj0:=OZ ht0 (show 1≤s.slot by omega)
 have hj1:=OZ (show 0≤u - 1 by omega) (show 1≤s.slot by omega)
 have hj2:(u - 1) / s.slot < s.slots:=by
  refine Int.ediv_lt_of_lt_mul (by omega) ?_
  omega
 have e0:Int.tdiv t s.slot = t / s.slot:=Int.tdiv_eq_ediv_of_nonneg ht0
 have e1:Int.tdiv (u - 1) s.slot = (u - 1) / s.slot:=Int.tdiv_eq_ediv_of_nonneg (by omega)
 have hne:s.slot≠0:=by omega
 have hbq:(s.slot == 0) = false:=beq_eq_false_iff_ne.2 hne
 have HR:Hid (SB s x layer t u = (uR (je s x layer (t / s.slot) ((u - 1) / s.slot+1 - t / s.slot).toNat)).getD z31):=Lib.hid rfl
 generalize t / s.slot = j0 at*
 generalize (u - 1) / s.slot = j1 at*
 have hT0:=hT
 obtain ⟨A7,c7,A8,c8,mT,_⟩:=hT0
 refine (callsIn_wide (n:=6)).1 ?_
 refine callsIn_of_wp_marks Try.func70 rfl trivial ?_ rfl
 simp only [Try.ntmps70,List.size_toArray,List.length_cons,List.length_nil,Nat.reduceAdd,Nat.reduceSub,Array.replicate_succ,Array.replicate_zero,List.push_toArray,List.append_toArray,List.nil_append,List.cons_append]
 gi_wp2_with fail
 have wP:=bP mT
 have m5:eT (((w.alloc (.cells #[.pointer (some ⟨b,0,none⟩)] 104)).alloc (.cells #[U Z x.f0.f0,U Z x.f0.f1,U Z x.f1.f0,U Z x.f1.f1] 31)).alloc (.cells #[U Z 0,U Z 0,U Z 0,U Z 0] 31)) (w.heap.size) #[.pointer (some ⟨b,0,none⟩)] 104:=(ae (ae awc _) _)
 have m6:eT (((w.alloc (.cells #[.pointer (some ⟨b,0,none⟩)] 104)).alloc (.cells #[U Z x.f0.f0,U Z x.f0.f1,U Z x.f1.f0,U Z x.f1.f1] 31)).alloc (.cells #[U Z 0,U Z 0,U Z 0,U Z 0] 31)) (w.heap.size+1) #[U Z x.f0.f0,U Z x.f0.f1,U Z x.f1.f0,U Z x.f1.f1] 31:=(ae awd _)
 have m10:eT (((w.alloc (.cells #[.pointer (some ⟨b,0,none⟩)] 104)).alloc (.cells #[U Z x.f0.f0,U Z x.f0.f1,U Z x.f1.f0,U Z x.f1.f1] 31)).alloc (.cells #[U Z 0,U Z 0,U Z 0,U Z 0] 31)) (w.heap.size+1+1) #[U Z 0,U Z 0,U Z 0,U Z 0] 31:=(by have h_:=eP ((w.alloc (.cells #[.pointer (some ⟨b,0,none⟩)] 104)).alloc (.cells #[U Z x.f0.f0,U Z x.f0.f1,U Z x.f1.f0,U Z x.f1.f1] 31)) (.cells #[U Z 0,U Z 0,U Z 0,U Z 0] 31);first|exact h_|(simp only [World.size_alloc] at h_;exact h_))
 replace mT:eT (((w.alloc (.cells #[.pointer (some ⟨b,0,none⟩)] 104)).alloc (.cells #[U Z x.f0.f0,U Z x.f0.f1,U Z x.f1.f0,U Z x.f1.f1] 31)).alloc (.cells #[U Z 0,U Z 0,U Z 0,U Z 0] 31)) b #[U Z s.nx,U Z s.ny,U Z s.cell,U Z s.slot,U Z s.slots,U Z s.layers,U Z s.most,.slice A7 s.shores.length c7,.slice A8 s.currents.length c8,U Z v.speed,U Z v.dive,U Z v.use.f0,U Z v.use.f1,U Z v.drift.f0,U Z v.drift.f1,U Z v.reserve] 110:=(ae (ae (ae mT _) _) _)
 have mB:Below w.heap.size w (((w.alloc (.cells #[.pointer (some ⟨b,0,none⟩)] 104)).alloc (.cells #[U Z x.f0.f0,U Z x.f0.f1,U Z x.f1.f0,U Z x.f1.f1] 31)).alloc (.cells #[U Z 0,U Z 0,U Z 0,U Z 0] 31)):=(aT (aT (aT (Below.refl w.heap.size w) _) _) _)
 have jS:w.heap.size≤w.heap.size:=Nat.le_refl _
 generalize qL:(((w.alloc (.cells #[.pointer (some ⟨b,0,none⟩)] 104)).alloc (.cells #[U Z x.f0.f0,U Z x.f0.f1,U Z x.f1.f0,U Z x.f1.f1] 31)).alloc (.cells #[U Z 0,U Z 0,U Z 0,U Z 0] 31)) = W1 at mT m5 m6 m10 mB ⊢
 clear qL
 generalize hg5:w.heap.size = g5 at m5 m6 m10 ⊢
 have KP:b≠g5:=by omega
 have WZ:g5≠b:=KP.symm
 have hG5:w.heap.size≤g5:=by omega
 generalize UC:g5+1 = g6 at m6 m10 ⊢
 have EO:b≠g6:=by omega
 have o7:g5≠g6:=by omega
 have Rb:g6≠b:=EO.symm
 have lC:g6≠g5:=o7.symm
 have SC:w.heap.size≤g6:=by omega
 generalize UD:g6+1 = g10 at m10 ⊢
 have PY:b≠g10:=by omega
 have oq:g5≠g10:=by omega
 have mE:g6≠g10:=by omega
 have aa7:g10≠b:=PY.symm
 have UH:g10≠g5:=oq.symm
 have PZ:g10≠g6:=mE.symm
 have pz:w.heap.size≤g10:=by omega
 clear jS wP
 try clear UD
 try clear UC
 try clear hg5
 have wG:w.heap.size≤W1.heap.size:=mB.size
 refine Eu (wpIn_wide.2 ?_)
 replace mT:=ag mT
 replace m5:=ag m5
 replace m6:=ag m6
 replace m10:=ag m10
 replace mB:=bU mB
 have wq:wrap64 (s.nx*s.ny) = s.nx*s.ny:=by unfold wrap64;omega
 refine jT (n:=12) (S:=fun w'=>w'.cell? ⟨g5,0,none⟩ = some (.pointer (some ⟨b,0,none⟩))∧w'.cell? ⟨b,0,none⟩ = some (U Z s.nx)∧w'.cell? ⟨b,1,none⟩ = some (U Z s.ny)) (ds:=[]) #[ac,ac,ac,ac,ac,ac,ac,ac,ac,ac,ac,ac] aY rfl rfl ⟨((af m5 0).trans rfl),((af mT 0).trans rfl),((af mT 1).trans rfl)⟩ (fun hHeld=>?_)
 generalize hWd:World.drew _ = Wx at mB mT m5 m6 m10 hHeld ⊢
 clear hWd
 refine ja (i:=0) (N:=some 17) aY hHeld ?_
 refine dW (i:=1) (N:=some 18) aY ?_
 refine dW (i:=2) (N:=some 19) aY ?_
 refine dW (i:=3) (N:=some 20) aY ?_
 refine ja (i:=4) (N:=some 21) aY hHeld ?_
 refine ja (i:=5) (N:=some 22) aY hHeld ?_
 refine dW (i:=6) (N:=some 23) aY ?_
 refine dW (i:=7) (N:=some 24) aY ?_
 refine dW (i:=8) (N:=some 25) aY ?_
 refine ja (i:=9) (N:=some 26) aY hHeld ?_
 refine dW (i:=10) (N:=some 27) aY ?_
 refine dW (i:=11) (N:=some 11) aY ?_
 refine lI aY ?_
 clear wq hHeld
 refine vZ ?_
 have D8:=(af m5 0).trans rfl
 have cT3:=(af mT 3).trans rfl
 have cq:∀ o_,(Wx.alloc o_).cell? ⟨g5,0,none⟩ = some (.pointer (some ⟨b,0,none⟩)):=fun o_=>(af (ae m5 o_) 0).trans rfl
 have cq3:∀ o_,(Wx.alloc o_).cell? ⟨b,3,none⟩ = some (U Z s.slot):=fun o_=>(af (ae mT o_) 3).trans rfl
 gi_wp2_with fail
 clear cq cq3 D8 cT3
 have Zp:w.heap.size≤Wx.heap.size:=mB.size
 have wP:=bP mT
 have Bo:=bP m5
 have wT:=bP m6
 have Rp:=bP m10
 have m12:eT (Wx.alloc (.cells #[.bool true] 4)) (Wx.heap.size) #[.bool true] 4:=(by have h_:=eP Wx (.cells #[.bool true] 4);first|exact h_|(simp only [World.size_alloc] at h_;exact h_))
 replace mT:eT (Wx.alloc (.cells #[.bool true] 4)) b #[U Z s.nx,U Z s.ny,U Z s.cell,U Z s.slot,U Z s.slots,U Z s.layers,U Z s.most,.slice A7 s.shores.length c7,.slice A8 s.currents.length c8,U Z v.speed,U Z v.dive,U Z v.use.f0,U Z v.use.f1,U Z v.drift.f0,U Z v.drift.f1,U Z v.reserve] 110:=(ae mT _)
 replace m5:eT (Wx.alloc (.cells #[.bool true] 4)) g5 #[.pointer (some ⟨b,0,none⟩)] 104:=(ae m5 _)
 replace m6:eT (Wx.alloc (.cells #[.bool true] 4)) g6 #[U Z x.f0.f0,U Z x.f0.f1,U Z x.f1.f0,U Z x.f1.f1] 31:=(ae m6 _)
 replace m10:eT (Wx.alloc (.cells #[.bool true] 4)) g10 #[U Z 0,U Z 0,U Z 0,U Z 0] 31:=(ae m10 _)
 replace mB:Below w.heap.size w (Wx.alloc (.cells #[.bool true] 4)):=(aT mB _)
 have jS:w.heap.size≤Wx.heap.size:=Zp
 generalize qL:(Wx.alloc (.cells #[.bool true] 4)) = W2 at mT m5 m6 m10 m12 mB ⊢
 clear qL
 generalize aP0:Wx.heap.size = g12 at m12 ⊢
 have uY:b≠g12:=by omega
 have GL:g5≠g12:=by omega
 have oU:g6≠g12:=by omega
 have kQ:g10≠g12:=by omega
 have asl:g12≠b:=uY.symm
 have asn:g12≠g5:=GL.symm
 have aso:g12≠g6:=oU.symm
 have jP:g12≠g10:=kQ.symm
 have Nw:w.heap.size≤g12:=by omega
 clear jS wP Bo wT Rp
 try clear aP0
 have sO:w.heap.size≤W2.heap.size:=mB.size
 refine wpIn_loop (fun a W=>∃ (q:Nat) (j:Int) (Ds:List Nat) (u_:Nat→Value),a = { tmps:=#[(u_ 0),(u_ 1),U Z layer,(u_ 3),U Z u,.pointer (some ⟨g5,0,none⟩),.pointer (some ⟨g6,0,none⟩),(u_ 7),(u_ 8),(u_ 9),.pointer (some ⟨g10,0,none⟩),U Z (s.nx*s.ny),.pointer (some ⟨g12,0,none⟩),U Z j,(u_ 14),(u_ 15),(u_ 16),(u_ 17),(u_ 18),(u_ 19),(u_ 20),(u_ 21),(u_ 22),(u_ 23),(u_ 24),(u_ 25),(u_ 26),(u_ 27),(u_ 28),(u_ 29),(u_ 30),(u_ 31),(u_ 32),(u_ 33),(u_ 34),(u_ 35),(u_ 36),(u_ 37),(u_ 38),(u_ 39),(u_ 40),(u_ 41),(u_ 42),(u_ 43),(u_ 44),(u_ 45),(u_ 46),(u_ 47),(u_ 48),(u_ 49),(u_ 50),(u_ 51),(u_ 52),(u_ 53),(u_ 54),(u_ 55),(u_ 56),(u_ 57),(u_ 58),(u_ 59),(u_ 60),(u_ 61),(u_ 62),(u_ 63),(u_ 64),(u_ 65),(u_ 66),(u_ 67),(u_ 68),(u_ 69),(u_ 70),(u_ 71),(u_ 72),(u_ 73),(u_ 74),(u_ 75),(u_ 76),(u_ 77),(u_ 78),(u_ 79),(u_ 80),(u_ 81),(u_ 82),(u_ 83),(u_ 84),(u_ 85),(u_ 86),(u_ 87),(u_ 88),(u_ 89),(u_ 90),(u_ 91)],defers:=Ds.map mark }∧Hid (j = j0+(q:Int))∧q≤(j1+1 - j0).toNat∧Marks W w.heap.size Ds∧eT W g5 #[.pointer (some ⟨b,0,none⟩)] 104∧eT W g6 #[U Z x.f0.f0,U Z x.f0.f1,U Z x.f1.f0,U Z x.f1.f1] 31∧eT W g10 #[U Z (kg (je s x layer j0 q)).f0.f0,U Z (kg (je s x layer j0 q)).f0.f1,U Z (kg (je s x layer j0 q)).f1.f0,U Z (kg (je s x layer j0 q)).f1.f1] 31∧eT W g12 #[.bool (uR (je s x layer j0 q)).isNone] 4∧Below w.heap.size w W) (fun a _=>(j1+1 - intOf (a.tmps.getD 13 undef)).toNat) ⟨0,j0,[],(fun k=>(#[.pointer (some ⟨b,0,none⟩),.agg #[U Z x.f0.f0,U Z x.f0.f1,U Z x.f1.f0,U Z x.f1.f1],U Z layer,U Z t,U Z u,.pointer (some ⟨g5,0,none⟩),.pointer (some ⟨g6,0,none⟩),undef,undef,undef,.pointer (some ⟨g10,0,none⟩),U Z (s.nx*s.ny),.pointer (some ⟨g12,0,none⟩),U Z j0,undef,undef,undef,.pointer (some ⟨b,0,none⟩),.pointer (some ⟨b,0,none⟩),.pointer (some ⟨b,0,none⟩),.pointer (some ⟨b,0,none⟩),U Z s.nx,.pointer (some ⟨b,0,none⟩),.pointer (some ⟨b,0,none⟩),.pointer (some ⟨b,0,none⟩),.pointer (some ⟨b,1,none⟩),U Z s.ny,U Z (wrap64 (s.nx*s.ny)),U Z t,.pointer (some ⟨b,0,none⟩),.pointer (some ⟨b,0,none⟩),.pointer (some ⟨b,0,none⟩),.pointer (some ⟨b,3,none⟩),U Z s.slot,U Z j0,undef,undef,undef,undef,undef,undef,undef,undef,undef,undef,undef,undef,undef,undef,undef,undef,undef,undef,undef,undef,undef,undef,undef,undef,undef,undef,undef,undef,undef,undef,undef,undef,undef,undef,undef,undef,undef,undef,undef,undef,undef,undef,undef,undef,undef,undef,undef,undef,undef,undef,undef,undef,undef,undef,undef,undef,undef]:Array Value).getD k undef),rfl,Lib.hid (by omega),Nat.zero_le _,Marks.nil _ _,m5,m6,m10,m12,mB⟩ ?_
 clear m5 m6 m10 m12 mB mT
 rintro a_ W ⟨q,j,Ds,u_,rfl,HJ,hq,hM,m5,m6,m10,m12,mB⟩
 have arc:w.heap.size≤W.heap.size:=mB.size
 obtain ⟨A7,c7,A8,c8,mT,_,_,hc8,PM⟩:=hT.below mB
 have cT3:=(af mT 3).trans rfl
 have cT5:=(af mT 5).trans rfl
 have D8:=(af m5 0).trans rfl
 have DF:∀ o_,(W.alloc o_).cell? ⟨g6,0,none⟩ = some (U Z x.f0.f0):=fun o_=>(af (ae m6 o_) 0).trans rfl
 have Kz:∀ o_,(W.alloc o_).cell? ⟨g6,1,none⟩ = some (U Z x.f0.f1):=fun o_=>(af (ae m6 o_) 1).trans rfl
 have KA:∀ o_,(W.alloc o_).cell? ⟨g6,2,none⟩ = some (U Z x.f1.f0):=fun o_=>(af (ae m6 o_) 2).trans rfl
 have KC:∀ o_,(W.alloc o_).cell? ⟨g6,3,none⟩ = some (U Z x.f1.f1):=fun o_=>(af (ae m6 o_) 3).trans rfl
 have ES:∀ o_,(W.alloc o_).cell? ⟨g5,0,none⟩ = some (.pointer (some ⟨b,0,none⟩)):=fun o_=>(af (ae m5 o_) 0).trans rfl
 have hjj:j0≤j:=by have:=HJ.out;omega
 by_cases hlt:j≤j1
 case neg =>
  have hqe:q = (j1+1 - j0).toNat:=by have:=HJ.out;omega
  have HQ:=Lib.hid hqe
  clear hqe ES DF Kz KA KC
  have HRR:=HR.out
  rw [← HQ.out] at HRR
  have HR2:=Lib.hid HRR
  clear HRR
  generalize (je s x layer j0 q) = L at*
  have Bp:=(af m10 0).trans rfl
  have XP:=bn m10 0
  have Bq:=(af m10 1).trans rfl
  have XQ:=bn m10 1
  have Br:=(af m10 2).trans rfl
  have XR:=bn m10 2
  have Bt:=(af m10 3).trans rfl
  have XT:=bn m10 3
  skip
  gi_wp2
  exact oK (fun X=>eT X g10 #[U Z (kg L).f0.f0,U Z (kg L).f0.f1,U Z (kg L).f1.f0,U Z (kg L).f1.f1] 31∧Below w.heap.size w X) (fun X D_ h hB hD=>⟨(World.putObj_heap_other (fun e=>by have h1:=h.1;unfold eT at h1;rw [e,hD] at h1;cases h1)).trans h.1,h.2.trans (belowK_b (w:=w) (Nat.le_refl _) X D_ _ _ hB hD rfl rfl)⟩) (fun X h=>⟨_,results_cell_row rfl _ _ g10 31 #[U Z (kg L).f0.f0,U Z (kg L).f0.f1,U Z (kg L).f1.f0,U Z (kg L).f1.f1] (0,0) _ rfl h.1 Try.underlying31 rfl aY,by rw [HR2.out];rfl,h.2⟩) Ds _ (Marks.set (Marks.set (Marks.set (Marks.set hM m10 (i:=0) _) (aI m10 0 (U Z (kg L).f0.f0) rfl) (i:=1) _) (aI (aI m10 0 (U Z (kg L).f0.f0) rfl) 1 (U Z (kg L).f0.f1) rfl) (i:=2) _) (aI (aI (aI m10 0 (U Z (kg L).f0.f0) rfl) 1 (U Z (kg L).f0.f1) rfl) 2 (U Z (kg L).f1.f0) rfl) (i:=3) _) ⟨(aI (aI (aI (aI m10 0 (U Z (kg L).f0.f0) rfl) 1 (U Z (kg L).f0.f1) rfl) 2 (U Z (kg L).f1.f0) rfl) 3 (U Z (kg L).f1.f1) rfl),(Below.setCell (p:=⟨g10,3,none⟩) (Below.setCell (p:=⟨g10,2,none⟩) (Below.setCell (p:=⟨g10,1,none⟩) (Below.setCell (p:=⟨g10,0,none⟩) mB pz _) pz _) pz _) pz _)⟩
 case pos =>
  skip
  have hq2:q+1≤(j1+1 - j0).toNat:=by have:=HJ.out;omega
  have HJ2:Hid (j+1 = j0+((q+1:Nat):Int)):=Lib.hid (by have:=HJ.out;omega)
  have p1:=iF (show 0≤j by omega) (show j≤15 by omega) (show 0≤s.layers by omega) hla.2
  have p2:=iF (show 0≤j*s.layers+layer by omega) (show j*s.layers+layer≤50 by omega) hxy.1 hxy.2
  gi_wp2_with fail
  refine ⟨trivial,(callsIn_wide.2 (PE _ _ _)).mono ?_⟩
  rintro e W_ ⟨rfl,rfl⟩
  gi_wp2_with fail
  clear cT3 cT5 D8 ES DF Kz KA KC
  have aVq:=hS.nx
  have hM0:Marks (((W.alloc (.cells #[U Z ((j*s.layers+layer)*(s.nx*s.ny))] 3)).alloc (.cells #[.pointer (some ⟨b,0,none⟩)] 104)).alloc (.cells #[U Z x.f0.f0,U Z x.f0.f1,U Z x.f1.f0,U Z x.f1.f1] 31)) w.heap.size Ds:=hM.below (aT (aT (aT (Below.refl _ W) _) _) _)
  have wP:=bP mT
  have Bo:=bP m5
  have wT:=bP m6
  have Rp:=bP m10
  have akh:=bP m12
  have m14:eT (((W.alloc (.cells #[U Z ((j*s.layers+layer)*(s.nx*s.ny))] 3)).alloc (.cells #[.pointer (some ⟨b,0,none⟩)] 104)).alloc (.cells #[U Z x.f0.f0,U Z x.f0.f1,U Z x.f1.f0,U Z x.f1.f1] 31)) (W.heap.size) #[U Z ((j*s.layers+layer)*(s.nx*s.ny))] 3:=(ae (ae (by have h_:=eP W (.cells #[U Z ((j*s.layers+layer)*(s.nx*s.ny))] 3);first|exact h_|(simp only [World.size_alloc] at h_;exact h_)) _) _)
  have mP:eT (((W.alloc (.cells #[U Z ((j*s.layers+layer)*(s.nx*s.ny))] 3)).alloc (.cells #[.pointer (some ⟨b,0,none⟩)] 104)).alloc (.cells #[U Z x.f0.f0,U Z x.f0.f1,U Z x.f1.f0,U Z x.f1.f1] 31)) (W.heap.size+1) #[.pointer (some ⟨b,0,none⟩)] 104:=(ae (by have h_:=eP (W.alloc (.cells #[U Z ((j*s.layers+layer)*(s.nx*s.ny))] 3)) (.cells #[.pointer (some ⟨b,0,none⟩)] 104);first|exact h_|(simp only [World.size_alloc] at h_;exact h_)) _)
  have mX:eT (((W.alloc (.cells #[U Z ((j*s.layers+layer)*(s.nx*s.ny))] 3)).alloc (.cells #[.pointer (some ⟨b,0,none⟩)] 104)).alloc (.cells #[U Z x.f0.f0,U Z x.f0.f1,U Z x.f1.f0,U Z x.f1.f1] 31)) (W.heap.size+1+1) #[U Z x.f0.f0,U Z x.f0.f1,U Z x.f1.f0,U Z x.f1.f1] 31:=(by have h_:=eP ((W.alloc (.cells #[U Z ((j*s.layers+layer)*(s.nx*s.ny))] 3)).alloc (.cells #[.pointer (some ⟨b,0,none⟩)] 104)) (.cells #[U Z x.f0.f0,U Z x.f0.f1,U Z x.f1.f0,U Z x.f1.f1] 31);first|exact h_|(simp only [World.size_alloc] at h_;exact h_))
  replace mT:eT (((W.alloc (.cells #[U Z ((j*s.layers+layer)*(s.nx*s.ny))] 3)).alloc (.cells #[.pointer (some ⟨b,0,none⟩)] 104)).alloc (.cells #[U Z x.f0.f0,U Z x.f0.f1,U Z x.f1.f0,U Z x.f1.f1] 31)) b #[U Z s.nx,U Z s.ny,U Z s.cell,U Z s.slot,U Z s.slots,U Z s.layers,U Z s.most,.slice A7 s.shores.length c7,.slice A8 s.currents.length c8,U Z v.speed,U Z v.dive,U Z v.use.f0,U Z v.use.f1,U Z v.drift.f0,U Z v.drift.f1,U Z v.reserve] 110:=(ae (ae (ae mT _) _) _)
  replace m5:eT (((W.alloc (.cells #[U Z ((j*s.layers+layer)*(s.nx*s.ny))] 3)).alloc (.cells #[.pointer (some ⟨b,0,none⟩)] 104)).alloc (.cells #[U Z x.f0.f0,U Z x.f0.f1,U Z x.f1.f0,U Z x.f1.f1] 31)) g5 #[.pointer (some ⟨b,0,none⟩)] 104:=(ae (ae (ae m5 _) _) _)
  replace m6:eT (((W.alloc (.cells #[U Z ((j*s.layers+layer)*(s.nx*s.ny))] 3)).alloc (.cells #[.pointer (some ⟨b,0,none⟩)] 104)).alloc (.cells #[U Z x.f0.f0,U Z x.f0.f1,U Z x.f1.f0,U Z x.f1.f1] 31)) g6 #[U Z x.f0.f0,U Z x.f0.f1,U Z x.f1.f0,U Z x.f1.f1] 31:=(ae (ae (ae m6 _) _) _)
  replace m10:eT (((W.alloc (.cells #[U Z ((j*s.layers+layer)*(s.nx*s.ny))] 3)).alloc (.cells #[.pointer (some ⟨b,0,none⟩)] 104)).alloc (.cells #[U Z x.f0.f0,U Z x.f0.f1,U Z x.f1.f0,U Z x.f1.f1] 31)) g10 #[U Z (kg (je s x layer j0 q)).f0.f0,U Z (kg (je s x layer j0 q)).f0.f1,U Z (kg (je s x layer j0 q)).f1.f0,U Z (kg (je s x layer j0 q)).f1.f1] 31:=(ae (ae (ae m10 _) _) _)
  replace m12:eT (((W.alloc (.cells #[U Z ((j*s.layers+layer)*(s.nx*s.ny))] 3)).alloc (.cells #[.pointer (some ⟨b,0,none⟩)] 104)).alloc (.cells #[U Z x.f0.f0,U Z x.f0.f1,U Z x.f1.f0,U Z x.f1.f1] 31)) g12 #[.bool (uR (je s x layer j0 q)).isNone] 4:=(ae (ae (ae m12 _) _) _)
  replace mB:Below w.heap.size w (((W.alloc (.cells #[U Z ((j*s.layers+layer)*(s.nx*s.ny))] 3)).alloc (.cells #[.pointer (some ⟨b,0,none⟩)] 104)).alloc (.cells #[U Z x.f0.f0,U Z x.f0.f1,U Z x.f1.f0,U Z x.f1.f1] 31)):=(aT (aT (aT mB _) _) _)
  have jS:w.heap.size≤W.heap.size:=arc
  generalize qL:(((W.alloc (.cells #[U Z ((j*s.layers+layer)*(s.nx*s.ny))] 3)).alloc (.cells #[.pointer (some ⟨b,0,none⟩)] 104)).alloc (.cells #[U Z x.f0.f0,U Z x.f0.f1,U Z x.f1.f0,U Z x.f1.f1] 31)) = W0 at mT m5 m6 m10 m12 m14 mP mX mB hM0 ⊢
  clear qL
  generalize awk:W.heap.size = g14 at m14 mP mX ⊢
  have zB:b≠g14:=by omega
  have M5:g5≠g14:=by omega
  have Be:g6≠g14:=by omega
  have Zu:g10≠g14:=by omega
  have Zv:g12≠g14:=by omega
  have Xb:g14≠b:=zB.symm
  have W9:g14≠g5:=M5.symm
  have Xa:g14≠g6:=Be.symm
  have qc:g14≠g10:=Zu.symm
  have EK:g14≠g12:=Zv.symm
  have awl:w.heap.size≤g14:=by omega
  generalize hgP:g14+1 = gP at mP mX ⊢
  have Sa:b≠gP:=by omega
  have OB:g5≠gP:=by omega
  have H9:g6≠gP:=by omega
  have ae2:g10≠gP:=by omega
  have ae3:g12≠gP:=by omega
  have M8:g14≠gP:=by omega
  have aaP:gP≠b:=Sa.symm
  have WT:gP≠g5:=OB.symm
  have RU:gP≠g6:=H9.symm
  have uo:gP≠g10:=ae2.symm
  have J7:gP≠g12:=ae3.symm
  have GG:gP≠g14:=M8.symm
  have hGP:w.heap.size≤gP:=by omega
  generalize hgX:gP+1 = gX at mX ⊢
  have aki:b≠gX:=by omega
  have akj:g5≠gX:=by omega
  have akk:g6≠gX:=by omega
  have ae4:g10≠gX:=by omega
  have ae5:g12≠gX:=by omega
  have ae6:g14≠gX:=by omega
  have Xu:gP≠gX:=by omega
  have awN:gX≠b:=aki.symm
  have awO:gX≠g5:=akj.symm
  have awP:gX≠g6:=akk.symm
  have uq:gX≠g10:=ae4.symm
  have J8:gX≠g12:=ae5.symm
  have asq:gX≠g14:=ae6.symm
  have akg:gX≠gP:=Xu.symm
  have hGX:w.heap.size≤gX:=by omega
  clear jS wP Bo wT Rp akh
  try clear hgX
  try clear hgP
  try clear awk
  have BQ:w.heap.size≤W0.heap.size:=mB.size
  have hDs:∀ D_ ∈ Ds,D_ < W0.heap.size:=fun D_ h=>(Array.getElem?_eq_some_iff.1 (hM0.2 D_ h).2).1
  have HN:Hid (g5≠g10∧g5≠g12∧g6≠g10∧g6≠g12∧g14≠g10∧g14≠g12∧g10≠g12∧g12≠g10∧gP≠g10∧gX≠g10∧gP≠g12∧gX≠g12):=Lib.hid ⟨oq,GL,mE,oU,qc,EK,kQ,jP,uo,uq,J7,J8⟩
  try clear KP EO PY uY zB
  try clear Sa
  try clear aki
  try clear WZ
  try clear o7 oq GL M5
  try clear OB
  try clear akj
  try clear Rb
  try clear lC mE oU Be
  try clear H9
  try clear akk
  try clear aa7
  try clear UH PZ kQ Zu
  try clear ae2
  try clear ae4
  try clear asl
  try clear asn aso jP Zv
  try clear ae3
  try clear ae5
  try clear Xb
  try clear W9 Xa qc EK
  try clear M8
  try clear ae6
  try clear aaP
  try clear WT RU uo J7 GG
  try clear Xu
  try clear awN
  try clear awO awP uq J8 asq
  try clear akg
  refine wpIn_rangeFunc_ownH rfl (by omega) (gf:=135) (lb:=#[.pointer (some ⟨gP,0,none⟩),.pointer (some ⟨gX,0,none⟩)]) rfl trivial (enters_of Try.func135 aY rfl)
   (encs:=fun c:EJ s=>#[U Z c.1]) (Kp:=Kq w gP gX b x) (S:=ake s x) (Sp:=ash s x) (N:=(uA s x).length) (w0:=W0)
   (fun l J Jx X_ hW hJ _ hY h0=>PG 5 (by omega) l gP gX w b s v x hT hS hx (Kq w gP gX b x) (fun A B h hE=>⟨hE.1.trans h.1,h.2.1 hE.2.1,h.2.2 hE.2.2⟩) J Jx hY (fun f X Y h hB=>hJ f X Y none h ⟨hB.os,hB.tape,hB.output,hB.size,fun k hk _=>hB.block k hk⟩ (fun r e=>by cases e)) X_ ⟨bO mB hW,eT.zZ mP hW,eT.zZ mX hW⟩ h0) Kq.trans (Kq.put BQ (bP mP) (bP mX)) (Below.refl _ _) (fun _=>rfl)
   (fun pre W=>eT W g5 #[.pointer (some ⟨b,0,none⟩)] 104∧eT W g6 #[U Z x.f0.f0,U Z x.f0.f1,U Z x.f1.f0,U Z x.f1.f1] 31∧eT W g14 #[U Z ((j*s.layers+layer)*(s.nx*s.ny))] 3∧eT W g10 #[U Z (kg (je s x layer j0 q++(pre.map fun c=>Aa s layer j c.1))).f0.f0,U Z (kg (je s x layer j0 q++(pre.map fun c=>Aa s layer j c.1))).f0.f1,U Z (kg (je s x layer j0 q++(pre.map fun c=>Aa s layer j c.1))).f1.f0,U Z (kg (je s x layer j0 q++(pre.map fun c=>Aa s layer j c.1))).f1.f1] 31∧eT W g12 #[.bool (uR (je s x layer j0 q++(pre.map fun c=>Aa s layer j c.1))).isNone] 4∧Marks W w.heap.size Ds∧Below w.heap.size w W)
   (fun c pre W=>False)
   (OwnFrom.and (ib _ _ (fun _=>_) _) (OwnFrom.and (ib _ _ (fun _=>_) _) (OwnFrom.and (ib _ _ (fun _=>_) _) (OwnFrom.and (ib _ _ (fun pre:List (EJ s)=>#[U Z (kg (je s x layer j0 q++(pre.map fun c=>Aa s layer j c.1))).f0.f0,U Z (kg (je s x layer j0 q++(pre.map fun c=>Aa s layer j c.1))).f0.f1,U Z (kg (je s x layer j0 q++(pre.map fun c=>Aa s layer j c.1))).f1.f0,U Z (kg (je s x layer j0 q++(pre.map fun c=>Aa s layer j c.1))).f1.f1]) _) (OwnFrom.and (ib _ _ (fun pre:List (EJ s)=>#[.bool (uR (je s x layer j0 q++(pre.map fun c=>Aa s layer j c.1))).isNone]) _) (OwnFrom.and (DW _ _ Ds hDs) (ownFrom_below (by omega) (by omega))))))))
   (fun c pre X Y row hs hg hr=>hs)
   ⟨m5,m6,m14,by rw [List.map_nil,List.append_nil];exact m10,by rw [List.map_nil,List.append_nil];exact m12,hM0,mB⟩
   (fun c a' W=>∃ u_:Nat→Value,a' = { tmps:=#[(u_ 0),(u_ 1),(u_ 2),(u_ 3),(u_ 4),.pointer (some ⟨g5,0,none⟩),(u_ 6),(u_ 7),(u_ 8),(u_ 9),.pointer (some ⟨g10,0,none⟩),(u_ 11),.pointer (some ⟨g12,0,none⟩),(u_ 13),.pointer (some ⟨g14,0,none⟩),U Z c.1,(u_ 16),(u_ 17),(u_ 18),(u_ 19),(u_ 20),(u_ 21),(u_ 22),(u_ 23),(u_ 24),(u_ 25),(u_ 26),(u_ 27),(u_ 28),(u_ 29),(u_ 30),(u_ 31),(u_ 32),(u_ 33),(u_ 34),(u_ 35),(u_ 36),(u_ 37),(u_ 38),(u_ 39),(u_ 40),(u_ 41),(u_ 42),(u_ 43),(u_ 44),(u_ 45),(u_ 46),(u_ 47),(u_ 48),(u_ 49),(u_ 50),(u_ 51),(u_ 52),(u_ 53),(u_ 54),(u_ 55),(u_ 56),(u_ 57),(u_ 58),(u_ 59),(u_ 60),(u_ 61),(u_ 62),(u_ 63),(u_ 64),(u_ 65),(u_ 66),(u_ 67),(u_ 68),(u_ 69),(u_ 70),(u_ 71),(u_ 72),(u_ 73),(u_ 74),(u_ 75),(u_ 76),(u_ 77),(u_ 78),(u_ 79),(u_ 80),(u_ 81),(u_ 82),(u_ 83),(u_ 84),(u_ 85),(u_ 86),(u_ 87),(u_ 88),(u_ 89),(u_ 90),(u_ 91)],defers:=[] })
   (fun c a' s X Y row hs hg hr=>hs) ?assign ?body ?done ?stop
  case assign =>
   rintro l pre c X_ K hI hK
   gi_wp2
   exact hK _ _ ((KeepsOthers.refl X_).from _) (Kq.below hI.2.2.2.2.2.2.size (Below.refl _ _)) hI ⟨(fun k=>(#[(u_ 0),(u_ 1),U Z layer,(u_ 3),U Z u,.pointer (some ⟨g5,0,none⟩),.pointer (some ⟨g6,0,none⟩),(u_ 7),(u_ 8),(u_ 9),.pointer (some ⟨g10,0,none⟩),U Z (s.nx*s.ny),.pointer (some ⟨g12,0,none⟩),U Z j,.pointer (some ⟨g14,0,none⟩),U Z c.1,(u_ 16),(u_ 17),(u_ 18),(u_ 19),(u_ 20),(u_ 21),(u_ 22),(u_ 23),(u_ 24),(u_ 25),(u_ 26),(u_ 27),(u_ 28),(u_ 29),(u_ 30),(u_ 31),(u_ 32),(u_ 33),(u_ 34),U Z j,U Z u,U Z (u - 1),.pointer (some ⟨b,0,none⟩),.pointer (some ⟨b,0,none⟩),.pointer (some ⟨b,0,none⟩),.pointer (some ⟨b,3,none⟩),U Z s.slot,U Z j1,.bool true,(u_ 45),(u_ 46),U Z j,.pointer (some ⟨b,0,none⟩),.pointer (some ⟨b,0,none⟩),.pointer (some ⟨b,0,none⟩),.pointer (some ⟨b,5,none⟩),U Z s.layers,U Z (j*s.layers),U Z layer,U Z (j*s.layers+layer),U Z (s.nx*s.ny),U Z ((j*s.layers+layer)*(s.nx*s.ny)),.pointer (some ⟨b,0,none⟩),.agg #[U Z x.f0.f0,U Z x.f0.f1,U Z x.f1.f0,U Z x.f1.f1],.func (.func 135) #[] #[.pointer (some ⟨gP,0,none⟩),.pointer (some ⟨gX,0,none⟩)],U Z c.1,(u_ 62),(u_ 63),(u_ 64),(u_ 65),(u_ 66),(u_ 67),(u_ 68),(u_ 69),(u_ 70),(u_ 71),(u_ 72),(u_ 73),(u_ 74),(u_ 75),(u_ 76),(u_ 77),(u_ 78),(u_ 79),(u_ 80),(u_ 81),(u_ 82),(u_ 83),(u_ 84),(u_ 85),(u_ 86),(u_ 87),(u_ 88),(u_ 89),(u_ 90),(u_ 91)]:Array Value).getD k undef),rfl⟩
  case stop =>
   rintro D_ c pre X_ hD hp h hK
   exact h.elim
  case done =>
   rintro D_ xs X_ hD hxs ⟨m5,m6,m14,m10,m12,hM,mB⟩ hK
   have hL:je s x layer j0 q++xs.map (fun c=>Aa s layer j c.1) = je s x layer j0 (q+1):=by rw [Zt];unfold slotL;rw [← (show xs.map Subtype.val = uA s x from hxs),List.map_map,← HJ.out];rfl
   rw [hL] at m10 m12
   clear hL
   have hM2:=hM.cons (fun h=>absurd (hDs D_ h) (Nat.not_lt.2 hD)) (Nat.le_trans BQ hD) hK
   gi_wp2
   skip
   exact ⟨⟨q+1,j+1,D_ :: Ds,(fun k=>(#[(u_ 0),(u_ 1),U Z layer,(u_ 3),U Z u,.pointer (some ⟨g5,0,none⟩),.pointer (some ⟨g6,0,none⟩),(u_ 7),(u_ 8),(u_ 9),.pointer (some ⟨g10,0,none⟩),U Z (s.nx*s.ny),.pointer (some ⟨g12,0,none⟩),U Z (j+1),.pointer (some ⟨g14,0,none⟩),(u_ 15),(u_ 16),(u_ 17),(u_ 18),(u_ 19),(u_ 20),(u_ 21),(u_ 22),(u_ 23),(u_ 24),(u_ 25),(u_ 26),(u_ 27),(u_ 28),(u_ 29),(u_ 30),(u_ 31),(u_ 32),(u_ 33),(u_ 34),U Z j,U Z u,U Z (u - 1),.pointer (some ⟨b,0,none⟩),.pointer (some ⟨b,0,none⟩),.pointer (some ⟨b,0,none⟩),.pointer (some ⟨b,3,none⟩),U Z s.slot,U Z j1,.bool true,U Z j,U Z (j+1),U Z j,.pointer (some ⟨b,0,none⟩),.pointer (some ⟨b,0,none⟩),.pointer (some ⟨b,0,none⟩),.pointer (some ⟨b,5,none⟩),U Z s.layers,U Z (j*s.layers),U Z layer,U Z (j*s.layers+layer),U Z (s.nx*s.ny),U Z ((j*s.layers+layer)*(s.nx*s.ny)),.pointer (some ⟨b,0,none⟩),.agg #[U Z x.f0.f0,U Z x.f0.f1,U Z x.f1.f0,U Z x.f1.f1],.func (.func 135) #[] #[.pointer (some ⟨gP,0,none⟩),.pointer (some ⟨gX,0,none⟩)],(u_ 61),(u_ 62),(u_ 63),(u_ 64),(u_ 65),(u_ 66),(u_ 67),(u_ 68),(u_ 69),(u_ 70),(u_ 71),(u_ 72),(u_ 73),(u_ 74),(u_ 75),(u_ 76),(u_ 77),(u_ 78),(u_ 79),(u_ 80),(u_ 81),(u_ 82),(u_ 83),(u_ 84),(u_ 85),(u_ 86),(u_ 87),(u_ 88),(u_ 89),(u_ 90),(u_ 91)]:Array Value).getD k undef),rfl,HJ2,hq2,hM2,m5,m6,m10,m12,mB⟩,by simp [intOf];omega⟩
  case body =>
   skip
   rintro l pre c a_ X_ hlW ⟨r,hr⟩ ⟨m5,m6,m14,m10,m12,hM,mB⟩ ⟨u_,rfl⟩ hlen
   have hXs:W0.heap.size≤X_.heap.size:=Nat.le_trans hlW (Nat.le_of_lt (bP hr))
   clear hr
   have hN:Below X_.heap.size X_ X_:=Below.refl _ _
   obtain ⟨A7,c7,A8,c8,mT,_,_,hc8,PM⟩:=hT.below mB
   have hidx:=Ze (q:=j) (l:=layer) (k:=s.nx*s.ny) (c:=c.1) (ll:=s.slots) (kk:=s.layers) (by omega) (by omega) hl0 hl1 c.2.1 c.2.2
   rw [← HCU.out] at hidx
   have HY:Hid (Aa s layer j c.1 = ⟨(bu s.currents ((j*s.layers+layer)*(s.nx*s.ny)+c.1)).f0,(bu s.currents ((j*s.layers+layer)*(s.nx*s.ny)+c.1)).f1⟩):=Lib.hid rfl
   obtain ⟨hi0,hi1⟩:=hidx
   obtain ⟨ad,e_,hy0,hy1,hy2,hy3⟩:=FE PM _ hi0 hi1
   cases e_
   clear PM
   generalize bu s.currents ((j*s.layers+layer)*(s.nx*s.ny)+c.1) = y at*
   generalize (j*s.layers+layer)*(s.nx*s.ny) = R at*
   have wR:wrap64 (R+c.1) = R+c.1:=by unfold wrap64;have:=c.2;omega
   have hm0:uR (je s x layer j0 q++(pre.map fun c=>Aa s layer j c.1)) = uR (je s x layer j0 q++(pre.map fun c=>Aa s layer j c.1)):=rfl
   generalize aFA:(je s x layer j0 q++(pre.map fun c=>Aa s layer j c.1)) = L at*
   have hLL:=Lib.hid aFA
   clear hm0 aFA
   gi_wp2_with fail
   replace mT:=ag mT
   replace m5:=ag m5
   replace m6:=ag m6
   replace m10:=ag m10
   replace m12:=ag m12
   replace m14:=ag m14
   replace mB:=bU mB
   replace hy0:=((bU (Below.refl X_.heap.size X_)).cell (World.block_lt_of_cell? X_ _ hy0)).trans hy0
   replace hy1:=((bU (Below.refl X_.heap.size X_)).cell (World.block_lt_of_cell? X_ _ hy1)).trans hy1
   replace hy2:=((bU (Below.refl X_.heap.size X_)).cell (World.block_lt_of_cell? X_ _ hy2)).trans hy2
   replace hy3:=((bU (Below.refl X_.heap.size X_)).cell (World.block_lt_of_cell? X_ _ hy3)).trans hy3
   replace hM:=hM.below (bU (Below.refl _ X_))
   replace hN:=bU hN
   refine RV (m:=25) (S:=fun w'=>w'.cell? ⟨g5,0,none⟩ = some (.pointer (some ⟨b,0,none⟩))∧w'.cell? ⟨g14,0,none⟩ = some (U Z R)∧w'.cell? ⟨b,8,none⟩ = some (.slice (some ad) s.currents.length c8)∧w'.cell? (ad.add ((R+c.1).toNat*4)) = some (U Z y.f0.f0)∧w'.cell? ⟨(ad.add ((R+c.1).toNat*4)).block,(ad.add ((R+c.1).toNat*4)).off+1,none⟩ = some (U Z y.f0.f1)∧w'.cell? ⟨(ad.add ((R+c.1).toNat*4)).block,(ad.add ((R+c.1).toNat*4)).off+2,none⟩ = some (U Z y.f1.f0)∧w'.cell? ⟨(ad.add ((R+c.1).toNat*4)).block,(ad.add ((R+c.1).toNat*4)).off+3,none⟩ = some (U Z y.f1.f1)) (ds:=[24]) #[ac,ac,ac,ac,ac,ac,ac,ac,ac,ac,ac,ac,ac,ac,ac,ac,ac,ac,ac,ac,ac,ac,ac,ac,ac] aY (M9 (z8 Gy)) aY rfl rfl ⟨((af m5 0).trans rfl),((af m14 0).trans rfl),((af mT 8).trans rfl),hy0,hy1,hy2,hy3⟩ (fun hHeld=>?_)
   generalize hWd:World.drew _ = Wx at mB mT m5 m6 m10 m12 m14 hM hN hy0 hy1 hy2 hy3 hHeld ⊢
   clear hWd
   refine dW (i:=6) (N:=some 68) aY ?_
   refine dW (i:=17) (N:=some 79) aY ?_
   refine ja (i:=0) (N:=some 62) aY hHeld ?_
   refine dW (i:=1) (N:=some 63) aY ?_
   refine dW (i:=2) (N:=some 64) aY ?_
   refine dW (i:=3) (N:=some 65) aY ?_
   refine ja (i:=4) (N:=some 66) aY hHeld ?_
   refine ja (i:=5) (N:=some 67) aY hHeld ?_
   refine dW (i:=7) (N:=some 69) aY ?_
   refine dW (i:=8) (N:=some 70) aY ?_
   refine dW (i:=9) (N:=some 71) aY ?_
   refine ja (i:=10) (N:=some 72) aY hHeld ?_
   refine ja (i:=11) (N:=some 73) aY hHeld ?_
   refine dW (i:=12) (N:=some 74) aY ?_
   refine dW (i:=13) (N:=some 75) aY ?_
   refine dW (i:=14) (N:=some 76) aY ?_
   refine ja (i:=15) (N:=some 77) aY hHeld ?_
   refine ja (i:=16) (N:=some 78) aY hHeld ?_
   refine dW (i:=18) (N:=some 80) aY ?_
   refine dW (i:=19) (N:=some 81) aY ?_
   refine dW (i:=20) (N:=some 82) aY ?_
   refine ja (i:=21) (N:=some 83) aY hHeld ?_
   refine dW (i:=22) (N:=some 84) aY ?_
   refine jJ (i:=23) (N:=some 16) #[ab,ab,ab,ab,ab,ab,ab,ab,ab,ab,ab,ab,ab,ab,ab,ab,ab,ab,ab,ab,ab,ab,ab,ab,ac] rfl rfl aY (by decide) (fun K hK=>?_)
   refine Nu (w1:=?_) (v:=?_) (by rfl) rfl ?_ ?_
   rotate_left 2
   ·go_simp
    constructor
    ·rfl
    ·rfl
   refine hK.out _ _ ⟨((af (ae m5 (.cells #[U Z 0,U Z 0,U Z 0,U Z 0] 31)) 0).trans rfl),((af (ae m14 (.cells #[U Z 0,U Z 0,U Z 0,U Z 0] 31)) 0).trans rfl),((af (ae mT (.cells #[U Z 0,U Z 0,U Z 0,U Z 0] 31)) 8).trans rfl),((aT (Below.refl Wx.heap.size Wx) (.cells #[U Z 0,U Z 0,U Z 0,U Z 0] 31)).cell (World.block_lt_of_cell? Wx _ hy0)).trans hy0,((aT (Below.refl Wx.heap.size Wx) (.cells #[U Z 0,U Z 0,U Z 0,U Z 0] 31)).cell (World.block_lt_of_cell? Wx _ hy1)).trans hy1,((aT (Below.refl Wx.heap.size Wx) (.cells #[U Z 0,U Z 0,U Z 0,U Z 0] 31)).cell (World.block_lt_of_cell? Wx _ hy2)).trans hy2,((aT (Below.refl Wx.heap.size Wx) (.cells #[U Z 0,U Z 0,U Z 0,U Z 0] 31)).cell (World.block_lt_of_cell? Wx _ hy3)).trans hy3⟩ (fun hHeld=>?_)
   clear hK K
   refine eY afe ?_
   refine Kg (i:=24) (N:=none) #[ab,ab,ab,ab,ab,ab,ab,ab,ab,ab,ab,ab,ab,ab,ab,ab,ab,ab,ab,ab,ab,ab,ab,ab,ab] rfl rfl aY (by decide) (fun K hK=>?_)
   have NL:=eP Wx (.cells #[U Z 0,U Z 0,U Z 0,U Z 0] 31)
   have K7:=bn NL 0
   have PH:=bn NL 1
   have Xz:=bn NL 2
   have XB:=bn NL 3
   have K8:=(af NL 0).trans rfl
   have PI:=(af NL 1).trans rfl
   have XA:=(af NL 2).trans rfl
   have XC:=(af NL 3).trans rfl
   refine zD (w1:=?_) (by rfl) rfl ?_ ?_
   rotate_left
   ·go_simp
    rfl
   refine hK.out _ _ ?_
   clear hK K
   refine lI aY ?_
   try clear hHeld
   skip
   clear hy0 hy1 hy2 hy3 wR
   have Zp:w.heap.size≤Wx.heap.size:=mB.size
   have Nq:W0.heap.size≤Wx.heap.size:=Nat.le_trans hXs hN.size
   replace hM:=hM.below (aT (Below.refl _ Wx) (.cells #[U Z y.f0.f0,U Z y.f0.f1,U Z y.f1.f0,U Z y.f1.f1] 31))
   replace hN:=bO hN (aT (Below.refl _ Wx) (.cells #[U Z y.f0.f0,U Z y.f0.f1,U Z y.f1.f0,U Z y.f1.f1] 31))
   have wP:=bP mT
   have Bo:=bP m5
   have wT:=bP m6
   have Rp:=bP m10
   have akh:=bP m12
   have R9:=bP m14
   have m16:eT (Wx.alloc (.cells #[U Z y.f0.f0,U Z y.f0.f1,U Z y.f1.f0,U Z y.f1.f1] 31)) (Wx.heap.size) #[U Z y.f0.f0,U Z y.f0.f1,U Z y.f1.f0,U Z y.f1.f1] 31:=(by have h_:=eP Wx (.cells #[U Z y.f0.f0,U Z y.f0.f1,U Z y.f1.f0,U Z y.f1.f1] 31);first|exact h_|(simp only [World.size_alloc] at h_;exact h_))
   replace mT:eT (Wx.alloc (.cells #[U Z y.f0.f0,U Z y.f0.f1,U Z y.f1.f0,U Z y.f1.f1] 31)) b #[U Z s.nx,U Z s.ny,U Z s.cell,U Z s.slot,U Z s.slots,U Z s.layers,U Z s.most,.slice A7 s.shores.length c7,.slice (some ad) s.currents.length c8,U Z v.speed,U Z v.dive,U Z v.use.f0,U Z v.use.f1,U Z v.drift.f0,U Z v.drift.f1,U Z v.reserve] 110:=(ae mT _)
   replace m5:eT (Wx.alloc (.cells #[U Z y.f0.f0,U Z y.f0.f1,U Z y.f1.f0,U Z y.f1.f1] 31)) g5 #[.pointer (some ⟨b,0,none⟩)] 104:=(ae m5 _)
   replace m6:eT (Wx.alloc (.cells #[U Z y.f0.f0,U Z y.f0.f1,U Z y.f1.f0,U Z y.f1.f1] 31)) g6 #[U Z x.f0.f0,U Z x.f0.f1,U Z x.f1.f0,U Z x.f1.f1] 31:=(ae m6 _)
   replace m10:eT (Wx.alloc (.cells #[U Z y.f0.f0,U Z y.f0.f1,U Z y.f1.f0,U Z y.f1.f1] 31)) g10 #[U Z (kg L).f0.f0,U Z (kg L).f0.f1,U Z (kg L).f1.f0,U Z (kg L).f1.f1] 31:=(ae m10 _)
   replace m12:eT (Wx.alloc (.cells #[U Z y.f0.f0,U Z y.f0.f1,U Z y.f1.f0,U Z y.f1.f1] 31)) g12 #[.bool (uR L).isNone] 4:=(ae m12 _)
   replace m14:eT (Wx.alloc (.cells #[U Z y.f0.f0,U Z y.f0.f1,U Z y.f1.f0,U Z y.f1.f1] 31)) g14 #[U Z R] 3:=(ae m14 _)
   replace mB:Below w.heap.size w (Wx.alloc (.cells #[U Z y.f0.f0,U Z y.f0.f1,U Z y.f1.f0,U Z y.f1.f1] 31)):=(aT mB _)
   have jS:w.heap.size≤Wx.heap.size:=Zp
   generalize qL:(Wx.alloc (.cells #[U Z y.f0.f0,U Z y.f0.f1,U Z y.f1.f0,U Z y.f1.f1] 31)) = W3 at mT m5 m6 m10 m12 m14 m16 mB hM hN ⊢
   clear qL
   generalize awm:Wx.heap.size = g16 at m16 Nq ⊢
   have M7:b≠g16:=by omega
   have zC:g5≠g16:=by omega
   have um:g6≠g16:=by omega
   have ko:g10≠g16:=by omega
   have wz:g12≠g16:=by omega
   have qb:g14≠g16:=by omega
   have Xd:g16≠b:=M7.symm
   have aes:g16≠g5:=zC.symm
   have Xc:g16≠g6:=um.symm
   have aFB:g16≠g10:=ko.symm
   have aFC:g16≠g12:=wz.symm
   have BX:g16≠g14:=qb.symm
   have Xe:w.heap.size≤g16:=by omega
   clear jS wP Bo wT Rp akh R9
   try clear awm
   have Ha:w.heap.size≤W3.heap.size:=mB.size
   have hNS:=HN.out
   obtain ⟨_,_,_,_,_,_,kQ,jP,_⟩:=hNS
   have HN2:Hid (g5≠g16∧g6≠g16∧g14≠g16):=Lib.hid ⟨zC,um,qb⟩
   try clear M7 Xd
   try clear zC aes
   try clear um Xc
   try clear qb BX
   have hd_:1≤6 - 1 - 1:=by decide
   have hmx:Try.prog.follows .mixedOrders = true:=by kernel_rfl
   cases hO:uR L with
   |none =>
    rw [hO] at m12
    have HO:=Lib.hid hO
    clear hO
    obtain ⟨akl,akm,akn,ako⟩:=nV m16
    obtain ⟨Bp,Bq,Br,Bt⟩:=nV m10
    have akp:=(af m12 0).trans rfl
    obtain ⟨XP,XQ,XR,XT⟩:=arn m10
    have aFD:=bn m12 0
    skip
    gi_wp2
    clear kQ jP
    obtain ⟨oq,GL,mE,oU,qc,EK,kQ,jP,uo,uq,J7,J8⟩:=HN.out
    obtain ⟨zC,um,qb⟩:=HN2.out
    have hE:Aa s layer j c.1 = ⟨y.f0,y.f1⟩:=HY.out
    have hmap:je s x layer j0 q++List.map (fun c=>Aa s layer j c.1) (pre++[c]) = L++[(⟨y.f0,y.f1⟩:dO)]:=by rw [List.map_append,List.map_singleton,← List.append_assoc,hLL.out,hE]
    refine ⟨(mh hN).trans ((((((KeepsOthers.setCell _ _ _).trans (KeepsOthers.setCell _ _ _)).trans (KeepsOthers.setCell _ _ _)).trans (KeepsOthers.setCell _ _ _)).trans (KeepsOthers.setCell _ _ _)).from _),(Kq.set (p:=⟨g12,0,none⟩) (Kq.set (p:=⟨g10,3,none⟩) (Kq.set (p:=⟨g10,2,none⟩) (Kq.set (p:=⟨g10,1,none⟩) (Kq.set (p:=⟨g10,0,none⟩) (Kq.below (Nat.le_trans BQ hXs) hN) pz uo uq _) pz uo uq _) pz uo uq _) pz uo uq _) Nw J7 J8 _),?_⟩
    dsimp only
    rw [hmap]
    unfold kg
    rw [Sz HO.out]
    exact ⟨(aj (p:=⟨g12,0,none⟩) (aj (p:=⟨g10,3,none⟩) (aj (p:=⟨g10,2,none⟩) (aj (p:=⟨g10,1,none⟩) (aj (p:=⟨g10,0,none⟩) m5 oq _) oq _) oq _) oq _) GL _),(aj (p:=⟨g12,0,none⟩) (aj (p:=⟨g10,3,none⟩) (aj (p:=⟨g10,2,none⟩) (aj (p:=⟨g10,1,none⟩) (aj (p:=⟨g10,0,none⟩) m6 mE _) mE _) mE _) mE _) oU _),(aj (p:=⟨g12,0,none⟩) (aj (p:=⟨g10,3,none⟩) (aj (p:=⟨g10,2,none⟩) (aj (p:=⟨g10,1,none⟩) (aj (p:=⟨g10,0,none⟩) m14 qc _) qc _) qc _) qc _) EK _),(aj (p:=⟨g12,0,none⟩) (aI (aI (aI (aI m10 0 (U Z y.f0.f0) rfl) 1 (U Z y.f0.f1) rfl) 2 (U Z y.f1.f0) rfl) 3 (U Z y.f1.f1) rfl) kQ _),(aI (aj (p:=⟨g10,3,none⟩) (aj (p:=⟨g10,2,none⟩) (aj (p:=⟨g10,1,none⟩) (aj (p:=⟨g10,0,none⟩) m12 jP _) jP _) jP _) jP _) 0 (.bool false) rfl),(Marks.set (Marks.set (Marks.set (Marks.set (Marks.set hM m10 (i:=0) _) (aI m10 0 (U Z y.f0.f0) rfl) (i:=1) _) (aI (aI m10 0 (U Z y.f0.f0) rfl) 1 (U Z y.f0.f1) rfl) (i:=2) _) (aI (aI (aI m10 0 (U Z y.f0.f0) rfl) 1 (U Z y.f0.f1) rfl) 2 (U Z y.f1.f0) rfl) (i:=3) _) (aj (p:=⟨g10,3,none⟩) (aj (p:=⟨g10,2,none⟩) (aj (p:=⟨g10,1,none⟩) (aj (p:=⟨g10,0,none⟩) m12 jP _) jP _) jP _) jP _) (i:=0) _),(Below.setCell (p:=⟨g12,0,none⟩) (Below.setCell (p:=⟨g10,3,none⟩) (Below.setCell (p:=⟨g10,2,none⟩) (Below.setCell (p:=⟨g10,1,none⟩) (Below.setCell (p:=⟨g10,0,none⟩) mB pz _) pz _) pz _) pz _) Nw _)⟩
   |some z =>
    have hz_:kg L = z:=by unfold kg;rw [hO];rfl
    rw [hO] at m12
    rw [hz_] at m10
    have HO:=Lib.hid hO
    clear hO hz_
    obtain ⟨akl,akm,akn,ako⟩:=nV m16
    obtain ⟨Bp,Bq,Br,Bt⟩:=nV m10
    have akp:=(af m12 0).trans rfl
    gi_wp2_with fail
    clear akl akm akn ako Bp Bq Br Bt akp
    have hcon:=YT z ⟨y.f0,y.f1⟩ W3
    refine ⟨trivial,(CallsIn.inRound l (callsIn_wide.2 hcon)).mono ?_⟩
    clear hcon
    rintro e W4 ⟨rfl,hb⟩
    generalize hH:oJ z ⟨y.f0,y.f1⟩ = h_ at*
    have HH:=Lib.hid hH
    clear hH
    replace hM:=hM.below hb
    replace hN:=bO hN hb
    replace mT:=av mT hb
    replace m5:=av m5 hb
    replace m6:=av m6 hb
    replace m10:=av m10 hb
    replace m12:=av m12 hb
    replace m14:=av m14 hb
    replace m16:=av m16 hb
    replace mB:=bO mB hb
    clear hb
    have O3:w.heap.size≤W4.heap.size:=mB.size
    obtain ⟨akl,akm,akn,ako⟩:=nV m16
    obtain ⟨Bp,Bq,Br,Bt⟩:=nV m10
    have akp:=(af m12 0).trans rfl
    obtain ⟨aTr,aTs,aTt,aTu⟩:=arn m16
    obtain ⟨XP,XQ,XR,XT⟩:=arn m10
    have aFD:=bn m12 0
    skip
    gi_wp2
    clear kQ jP
    obtain ⟨oq,GL,mE,oU,qc,EK,kQ,jP,uo,uq,J7,J8⟩:=HN.out
    obtain ⟨zC,um,qb⟩:=HN2.out
    have hE:Aa s layer j c.1 = ⟨y.f0,y.f1⟩:=HY.out
    have hmap:je s x layer j0 q++List.map (fun c=>Aa s layer j c.1) (pre++[c]) = L++[(⟨y.f0,y.f1⟩:dO)]:=by rw [List.map_append,List.map_singleton,← List.append_assoc,hLL.out,hE]
    refine ⟨(mh hN).trans ((((((((((KeepsOthers.setCell _ _ _).trans (KeepsOthers.setCell _ _ _)).trans (KeepsOthers.setCell _ _ _)).trans (KeepsOthers.setCell _ _ _)).trans (KeepsOthers.setCell _ _ _)).trans (KeepsOthers.setCell _ _ _)).trans (KeepsOthers.setCell _ _ _)).trans (KeepsOthers.setCell _ _ _)).trans (KeepsOthers.setCell _ _ _)).from _),(Kq.set (p:=⟨g12,0,none⟩) (Kq.set (p:=⟨g10,3,none⟩) (Kq.set (p:=⟨g10,2,none⟩) (Kq.set (p:=⟨g10,1,none⟩) (Kq.set (p:=⟨g10,0,none⟩) (Kq.set (p:=⟨g16,3,none⟩) (Kq.set (p:=⟨g16,2,none⟩) (Kq.set (p:=⟨g16,1,none⟩) (Kq.set (p:=⟨g16,0,none⟩) (Kq.below (Nat.le_trans BQ hXs) hN) Xe (Nat.ne_of_lt (Nat.lt_of_lt_of_le (bP mP) Nq)) (Nat.ne_of_lt (Nat.lt_of_lt_of_le (bP mX) Nq)) _) Xe (Nat.ne_of_lt (Nat.lt_of_lt_of_le (bP mP) Nq)) (Nat.ne_of_lt (Nat.lt_of_lt_of_le (bP mX) Nq)) _) Xe (Nat.ne_of_lt (Nat.lt_of_lt_of_le (bP mP) Nq)) (Nat.ne_of_lt (Nat.lt_of_lt_of_le (bP mX) Nq)) _) Xe (Nat.ne_of_lt (Nat.lt_of_lt_of_le (bP mP) Nq)) (Nat.ne_of_lt (Nat.lt_of_lt_of_le (bP mX) Nq)) _) pz uo uq _) pz uo uq _) pz uo uq _) pz uo uq _) Nw J7 J8 _),?_⟩
    dsimp only
    rw [hmap]
    unfold kg
    rw [SA HO.out]
    rw [HH.out]
    exact ⟨(aj (p:=⟨g12,0,none⟩) (aj (p:=⟨g10,3,none⟩) (aj (p:=⟨g10,2,none⟩) (aj (p:=⟨g10,1,none⟩) (aj (p:=⟨g10,0,none⟩) (aj (p:=⟨g16,3,none⟩) (aj (p:=⟨g16,2,none⟩) (aj (p:=⟨g16,1,none⟩) (aj (p:=⟨g16,0,none⟩) m5 zC _) zC _) zC _) zC _) oq _) oq _) oq _) oq _) GL _),(aj (p:=⟨g12,0,none⟩) (aj (p:=⟨g10,3,none⟩) (aj (p:=⟨g10,2,none⟩) (aj (p:=⟨g10,1,none⟩) (aj (p:=⟨g10,0,none⟩) (aj (p:=⟨g16,3,none⟩) (aj (p:=⟨g16,2,none⟩) (aj (p:=⟨g16,1,none⟩) (aj (p:=⟨g16,0,none⟩) m6 um _) um _) um _) um _) mE _) mE _) mE _) mE _) oU _),(aj (p:=⟨g12,0,none⟩) (aj (p:=⟨g10,3,none⟩) (aj (p:=⟨g10,2,none⟩) (aj (p:=⟨g10,1,none⟩) (aj (p:=⟨g10,0,none⟩) (aj (p:=⟨g16,3,none⟩) (aj (p:=⟨g16,2,none⟩) (aj (p:=⟨g16,1,none⟩) (aj (p:=⟨g16,0,none⟩) m14 qb _) qb _) qb _) qb _) qc _) qc _) qc _) qc _) EK _),(aj (p:=⟨g12,0,none⟩) (aI (aI (aI (aI (aj (p:=⟨g16,3,none⟩) (aj (p:=⟨g16,2,none⟩) (aj (p:=⟨g16,1,none⟩) (aj (p:=⟨g16,0,none⟩) m10 ko _) ko _) ko _) ko _) 0 (U Z h_.f0.f0) rfl) 1 (U Z h_.f0.f1) rfl) 2 (U Z h_.f1.f0) rfl) 3 (U Z h_.f1.f1) rfl) kQ _),(aI (aj (p:=⟨g10,3,none⟩) (aj (p:=⟨g10,2,none⟩) (aj (p:=⟨g10,1,none⟩) (aj (p:=⟨g10,0,none⟩) (aj (p:=⟨g16,3,none⟩) (aj (p:=⟨g16,2,none⟩) (aj (p:=⟨g16,1,none⟩) (aj (p:=⟨g16,0,none⟩) m12 wz _) wz _) wz _) wz _) jP _) jP _) jP _) jP _) 0 (.bool false) rfl),(Marks.set (Marks.set (Marks.set (Marks.set (Marks.set (Marks.set (Marks.set (Marks.set (Marks.set hM m16 (i:=0) _) (aI m16 0 (U Z h_.f0.f0) rfl) (i:=1) _) (aI (aI m16 0 (U Z h_.f0.f0) rfl) 1 (U Z h_.f0.f1) rfl) (i:=2) _) (aI (aI (aI m16 0 (U Z h_.f0.f0) rfl) 1 (U Z h_.f0.f1) rfl) 2 (U Z h_.f1.f0) rfl) (i:=3) _) (aj (p:=⟨g16,3,none⟩) (aj (p:=⟨g16,2,none⟩) (aj (p:=⟨g16,1,none⟩) (aj (p:=⟨g16,0,none⟩) m10 ko _) ko _) ko _) ko _) (i:=0) _) (aI (aj (p:=⟨g16,3,none⟩) (aj (p:=⟨g16,2,none⟩) (aj (p:=⟨g16,1,none⟩) (aj (p:=⟨g16,0,none⟩) m10 ko _) ko _) ko _) ko _) 0 (U Z h_.f0.f0) rfl) (i:=1) _) (aI (aI (aj (p:=⟨g16,3,none⟩) (aj (p:=⟨g16,2,none⟩) (aj (p:=⟨g16,1,none⟩) (aj (p:=⟨g16,0,none⟩) m10 ko _) ko _) ko _) ko _) 0 (U Z h_.f0.f0) rfl) 1 (U Z h_.f0.f1) rfl) (i:=2) _) (aI (aI (aI (aj (p:=⟨g16,3,none⟩) (aj (p:=⟨g16,2,none⟩) (aj (p:=⟨g16,1,none⟩) (aj (p:=⟨g16,0,none⟩) m10 ko _) ko _) ko _) ko _) 0 (U Z h_.f0.f0) rfl) 1 (U Z h_.f0.f1) rfl) 2 (U Z h_.f1.f0) rfl) (i:=3) _) (aj (p:=⟨g10,3,none⟩) (aj (p:=⟨g10,2,none⟩) (aj (p:=⟨g10,1,none⟩) (aj (p:=⟨g10,0,none⟩) (aj (p:=⟨g16,3,none⟩) (aj (p:=⟨g16,2,none⟩) (aj (p:=⟨g16,1,none⟩) (aj (p:=⟨g16,0,none⟩) m12 wz _) wz _) wz _) wz _) jP _) jP _) jP _) jP _) (i:=0) _),(Below.setCell (p:=⟨g12,0,none⟩) (Below.setCell (p:=⟨g10,3,none⟩) (Below.setCell (p:=⟨g10,2,none⟩) (Below.setCell (p:=⟨g10,1,none⟩) (Below.setCell (p:=⟨g10,0,none⟩) (Below.setCell (p:=⟨g16,3,none⟩) (Below.setCell (p:=⟨g16,2,none⟩) (Below.setCell (p:=⟨g16,1,none⟩) (Below.setCell (p:=⟨g16,0,none⟩) mB Xe _) Xe _) Xe _) Xe _) pz _) pz _) pz _) pz _) Nw _)⟩
end Go.Proofs.Ytmhaiihjfgfaoaa.Gl
end
