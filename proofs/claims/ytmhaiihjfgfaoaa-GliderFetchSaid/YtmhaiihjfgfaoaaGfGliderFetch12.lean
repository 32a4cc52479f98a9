import Derived.Test.YtmhaiihjfgfaoaaGfGliderFetch3
import Derived.Test.YtmhaiihjfgfaoaaGfGliderFetch11
set_option linter.unusedVariables false
set_option linter.unusedSimpArgs false
open Go.Value renaming int → U
open Go.IntKind renaming i64 → Z
open Bool renaming true → ab, false → ac
section
namespace Go.Proofs.Ytmhaiihjfgfaoaa.Gl
open Go.RowKit Go.Shelf Go.Proofs.YtmhaiihjfgfaoaaW.PrintWords Go.Proofs.YtmhaiihjfgfaoaaW.PrintLast Go.Proofs.YtmhaiihjfgfaoaaW.PrintMore Go.Proofs.Ytmhaiihjfgfaoaa.Pr Go.Proofs.YtmhaiihjfgfaoaaW.Round
set_option linter.unusedVariables false
set_option linter.unusedSimpArgs false
attribute [local go_sem] gp gq iA iB gu
attribute [local go_sem] Oper.semAt_some
theorem GR (a b:Int):mn a b = min a b:=by unfold mn;split <;> omega
theorem DW (a b:Int):mx a b = max a b:=by unfold mx;split <;> omega
def BO (a b:jf):jf:=⟨⟨min a.f0.f0 b.f0.f0,max a.f0.f1 b.f0.f1⟩,⟨min a.f1.f0 b.f1.f0,max a.f1.f1 b.f1.f1⟩⟩
def aaR (o:Option jf) (y:jf):Option jf:=some (match o with|none=>y|some z=>BO z y)
def wU (l:List jf):Option jf:=l.foldl aaR none
theorem Mc (l:List jf) (y:jf):wU (l++[y]) = aaR (wU l) y:=by unfold wU;rw [List.foldl_append];rfl
def yZ (s:oJ) (layer j c:Int):jf:=⟨(ay s.currents ((j*s.layers+layer)*(s.nx*s.ny)+c)).f0,(ay s.currents ((j*s.layers+layer)*(s.nx*s.ny)+c)).f1⟩
def slotL (s:oJ) (x:jf) (layer j:Int):List jf:=(rz s x).map (yZ s layer j)
def kg (s:oJ) (x:jf) (layer j0:Int) (q:Nat):List jf:=(List.range q).flatMap fun r:Nat=>slotL s x layer (j0+(r:Int))
theorem aaS (s:oJ) (x:jf) (layer j0:Int) (q:Nat):kg s x layer j0 (q+1) = kg s x layer j0 q++slotL s x layer (j0+(q:Int)):=by
 unfold kg
 rw [List.range_succ,List.flatMap_append,List.flatMap_singleton]
def Q5 (s:oJ) (x:jf) (layer t u:Int):jf:=(wU (kg s x layer (t / s.slot) ((u - 1) / s.slot+1 - t / s.slot).toNat)).getD z31
def LB (w:World) (bp bx b:Nat) (x:jf) (A B:World):Prop:=Below w.heap.size A B∧(jh A bp #[.pointer (some ⟨b,0,none⟩)] 104→jh B bp #[.pointer (some ⟨b,0,none⟩)] 104)∧(jh A bx #[U Z x.f0.f0,U Z x.f0.f1,U Z x.f1.f0,U Z x.f1.f1] 31→jh B bx #[U Z x.f0.f0,U Z x.f0.f1,U Z x.f1.f0,U Z x.f1.f1] 31)
theorem LB.trans {w:World} {bp bx b:Nat} {x:jf} {A B C:World} (h:LB w bp bx b x A B) (k:LB w bp bx b x B C):LB w bp bx b x A C:=⟨h.1.trans k.1,fun q=>k.2.1 (h.2.1 q),fun q=>k.2.2 (h.2.2 q)⟩
theorem LB.put {w W0:World} {bp bx b:Nat} {x:jf} (hw:w.heap.size≤W0.heap.size) (hp:bp < W0.heap.size) (hx:bx < W0.heap.size) (W:World) (l:Nat) (o o':Obj) (hl:W0.heap.size≤l) (h:W.heap[l]? = some o) (h1:o.isCells = false) (h2:o.isWalk = false):LB w bp bx b x W (W.putObj l o') :=
 ⟨belowK_b hw W l o o' hl h h1 h2,fun q=>(World.putObj_heap_other (by omega)).trans q,fun q=>(World.putObj_heap_other (by omega)).trans q⟩
theorem LB.below {w:World} {bp bx b:Nat} {x:jf} {A B:World} (hw:w.heap.size≤A.heap.size) (h:Below A.heap.size A B):LB w bp bx b x A B:=⟨h.mono hw,fun q=>jh.O9 q h,fun q=>jh.O9 q h⟩
theorem LB.set {w:World} {bp bx b:Nat} {x:jf} {A B:World} (h:LB w bp bx b x A B) {p:Addr} (hp:w.heap.size≤p.block) (h1:bp≠p.block) (h2:bx≠p.block) (u:Value):LB w bp bx b x A (B.setCell p u):=⟨h.1.setCell hp u,fun q=>aV (h.2.1 q) h1 u,fun q=>aV (h.2.2 q) h2 u⟩
def mark (D_:Nat):Deferred:={ target:=.collected D_,args:=#[] }
def Marks (W:World) (B:Nat) (Ds:List Nat):Prop:=Ds.Nodup∧∀ D_ ∈ Ds,B≤D_∧W.heap[D_]? = some (.deferred (some []))
theorem Marks.nil (W:World) (B:Nat):Marks W B []:=⟨List.nodup_nil,fun D_ h=>by cases h⟩
theorem Marks.below {W W1:World} {B:Nat} {Ds:List Nat} (h:Marks W B Ds) (hb:Below W.heap.size W W1):Marks W1 B Ds :=
 ⟨h.1,fun D_ hD=>⟨(h.2 D_ hD).1,(hb.block D_ (Array.getElem?_eq_some_iff.1 (h.2 D_ hD).2).1).trans (h.2 D_ hD).2⟩⟩
theorem Marks.cons {W:World} {B D_:Nat} {Ds:List Nat} (h:Marks W B Ds) (hn:D_ ∉ Ds) (hB:B≤D_) (hD:W.heap[D_]? = some (.deferred (some []))):Marks W B (D_ :: Ds) :=
 ⟨List.nodup_cons.2 ⟨hn,h.1⟩,fun E hE=>by
  rcases List.mem_cons.1 hE with rfl|hE
  ·exact ⟨hB,hD⟩
  ·exact h.2 E hE⟩
theorem Marks.set {W:World} {B:Nat} {Ds:List Nat} (h:Marks W B Ds) {g i:Nat} {cs:Array Value} {t:TypeId} (hg:W.heap[g]? = some (.cells cs t (0,0))) (u:Value):Marks (W.setCell ⟨g,i,none⟩ u) B Ds :=
 ⟨h.1,fun D_ hD=>⟨(h.2 D_ hD).1,(Below.heap_setCell _ _ _ D_ (fun e=>by
  have h2:=(h.2 D_ hD).2
  rw [show D_ = g from e,hg] at h2
  cases h2)).trans (h.2 D_ hD).2⟩⟩
theorem U8 {β:Type} (B B0:Nat) (Ds:List Nat) (h:∀ D_ ∈ Ds,D_ < B):OwnFrom B (fun (_:β) W=>Marks W B0 Ds):=fun s X Y row hs hg hr =>
 ⟨hs.1,fun D_ hD=>⟨(hs.2 D_ hD).1,(hg.block D_ (Array.getElem?_eq_some_iff.1 (hs.2 D_ hD).2).1 (fun e=>by have h1:=(hr D_ e.symm).1;have h2:=h D_ hD;omega)).trans (hs.2 D_ hD).2⟩⟩
theorem MM {P:Program} {F:Fence} {n:Nat} {fn:Func} {tmps:Array Value} {R:Ending→World→Prop} {B:Nat} (I:World→Prop) (hI:∀ W D_,I W→B≤D_→W.heap[D_]? = some (.deferred (some []))→I (W.putObj D_ (.deferred none)))
 (hend:∀ W,I W→LeavesInM F n P fn tmps R [] .returning W):∀ (Ds:List Nat) (W:World),Marks W B Ds→I W→LeavesInM F n P fn tmps R (Ds.map mark) .returning W
 |[],W,_,h=>hend W h
 |D_ :: Ds,W,hM,h=>by
  have hD:=hM.2 D_ List.mem_cons_self
  refine ⟨by simp,.inl ⟨D_,_,rfl,run_takeDeferred hD.2,?_⟩⟩
  refine MM I hI hend Ds _ ⟨(List.nodup_cons.1 hM.1).2,fun E hE=>?_⟩ (hI W D_ h hD.1 hD.2)
  have hE2:=hM.2 E (List.mem_cons_of_mem _ hE)
  have hne:E≠D_:=fun e=>(List.nodup_cons.1 hM.1).1 (e ▸ hE)
  exact ⟨hE2.1,(World.putObj_heap_other (fun e=>hne e)).trans hE2.2⟩
theorem TR {q l k c ll kk:Int} (h0:0≤q) (h1:q < ll) (h2:0≤l) (h3:l < kk) (h4:0≤c) (h5:c < k):0≤(q*kk+l)*k+c∧(q*kk+l)*k+c < ll*kk*k:=by
 have a0:0≤q*kk:=Int.mul_nonneg h0 (by omega)
 have a1:0≤(q*kk+l)*k:=Int.mul_nonneg (by omega) (by omega)
 have a2:(q+1)*kk≤ll*kk:=Int.mul_le_mul_of_nonneg_right (by omega) (by omega)
 rw [Int.add_mul,Int.one_mul] at a2
 have a3:(q*kk+l+1)*k≤ll*kk*k:=Int.mul_le_mul_of_nonneg_right (by omega) (by omega)
 rw [Int.add_mul,Int.one_mul] at a3
 omega
def mh (l:List jf):jf:=(wU l).getD z31
theorem TS {l:List jf} {y:jf} (h:wU l = none):wU (l++[y]) = some y:=by rw [Mc,h];rfl
theorem TT {l:List jf} {y z:jf} (h:wU l = some z):wU (l++[y]) = some (BO z y):=by rw [Mc,h];rfl
theorem alO (a c:jf) (w:World):Calls Try.prog 119 #[.agg #[U Z a.f0.f0,U Z a.f0.f1,U Z a.f1.f0,U Z a.f1.f1],.agg #[U Z c.f0.f0,U Z c.f0.f1,U Z c.f1.f0,U Z c.f1.f1]] w
 (zn (.agg #[U Z (BO a c).f0.f0,U Z (BO a c).f0.f1,U Z (BO a c).f1.f0,U Z (BO a c).f1.f1]) w) :=
 DV.calls _ _ _ _ _ _ _ _ _ _ _ _ w (by unfold DV.f BO;simp only [GR,DW])
set_option maxRecDepth 100000 in
set_option maxHeartbeats 8000000 in
theorem aym (b:Nat) (s:oJ) (v:tF) (x:jf) (layer t u:Int) (w:World) (hT:nX w b s v) (hS:BX s) (hx:VK s x) (hcu:(s.currents.length:Int) = s.slots*s.layers*(s.nx*s.ny)) (hl0:0≤layer) (hl1:layer < s.layers) (ht0:0≤t) (ht1:t < u) (ht2:u≤s.slots*s.slot):
 Calls Try.prog 70 #[.pointer (some ⟨b,0,none⟩),.agg #[U Z x.f0.f0,U Z x.f0.f1,U Z x.f1.f0,U Z x.f1.f1],U Z layer,U Z t,U Z u] w (zn (.agg #[U Z (Q5 s x layer t u).f0.f0,U Z (Q5 s x layer t u).f0.f1,U Z (Q5 s x layer t u).f1.f0,U Z (Q5 s x layer t u).f1.f1]) w):=by
 have rO:=Try.underlying31
 have hxy:=iI (show 0≤s.nx by have:=hS.nx;omega) hS.nx.2 (show 0≤s.ny by have:=hS.ny;omega) hS.ny.2
 have hss:=iI (show 0≤s.slots by have:=hS.slots;omega) hS.slots.2 (show 0≤s.slot by have:=hS.slot;omega) hS.slot.2
 have hsl:=hS.slot
 have hso:=hS.slots
 have hla:=hS.layers
 have hcl:s.currents.length≤10000:=by
  have h1:=iI (show 0≤s.slots by omega) hso.2 (show 0≤s.layers by omega) hla.2
  have h2:=iI h1.1 h1.2 hxy.1 hxy.2
  omega
 have HCU:=Lib.hid hcu
 clear hcu
 have hj0:=Fa ht0 (show 1≤s.slot by omega)
 have hj1:=Fa (show 0≤u - 1 by omega) (show 1≤s.slot by omega)
 have hj2:(u - 1) / s.slot < s.slots:=by
  refine Int.ediv_lt_of_lt_mul (by omega) ?_
  omega
 have e0:Int.tdiv t s.slot = t / s.slot:=Int.tdiv_eq_ediv_of_nonneg ht0
 have e1:Int.tdiv (u - 1) s.slot = (u - 1) / s.slot:=Int.tdiv_eq_ediv_of_nonneg (by omega)
 have hne:s.slot≠0:=by omega
 have hbq:(s.slot == 0) = false:=beq_eq_false_iff_ne.2 hne
 have HR:Hid (Q5 s x layer t u = (wU (kg s x layer (t / s.slot) ((u - 1) / s.slot+1 - t / s.slot).toNat)).getD z31):=Lib.hid rfl
 generalize t / s.slot = j0 at*
 generalize (u - 1) / s.slot = j1 at*
 have hT0:=hT
 obtain ⟨A7,c7,A8,c8,mT,_⟩:=hT0
 refine (callsIn_wide (n:=6)).1 ?_
 refine callsIn_of_wp_marks Try.func70 rfl trivial ?_ rfl
 simp only [Try.ntmps70,List.size_toArray,List.length_cons,List.length_nil,Nat.reduceAdd,Nat.reduceSub,Array.replicate_succ,Array.replicate_zero,List.push_toArray,List.append_toArray,List.nil_append,List.cons_append]
 gi_wp2_with fail
 have Jg:=eG mT
 have m5:jh (((w.alloc (.cells #[.pointer (some ⟨b,0,none⟩)] 104)).alloc (.cells #[U Z x.f0.f0,U Z x.f0.f1,U Z x.f1.f0,U Z x.f1.f1] 31)).alloc (.cells #[U Z 0,U Z 0,U Z 0,U Z 0] 31)) (w.heap.size) #[.pointer (some ⟨b,0,none⟩)] 104:=(af (af aBp _) _)
 have m6:jh (((w.alloc (.cells #[.pointer (some ⟨b,0,none⟩)] 104)).alloc (.cells #[U Z x.f0.f0,U Z x.f0.f1,U Z x.f1.f0,U Z x.f1.f1] 31)).alloc (.cells #[U Z 0,U Z 0,U Z 0,U Z 0] 31)) (w.heap.size+1) #[U Z x.f0.f0,U Z x.f0.f1,U Z x.f1.f0,U Z x.f1.f1] 31:=(af aBq _)
 have m10:jh (((w.alloc (.cells #[.pointer (some ⟨b,0,none⟩)] 104)).alloc (.cells #[U Z x.f0.f0,U Z x.f0.f1,U Z x.f1.f0,U Z x.f1.f1] 31)).alloc (.cells #[U Z 0,U Z 0,U Z 0,U Z 0] 31)) (w.heap.size+1+1) #[U Z 0,U Z 0,U Z 0,U Z 0] 31:=(by have h_:=gT ((w.alloc (.cells #[.pointer (some ⟨b,0,none⟩)] 104)).alloc (.cells #[U Z x.f0.f0,U Z x.f0.f1,U Z x.f1.f0,U Z x.f1.f1] 31)) (.cells #[U Z 0,U Z 0,U Z 0,U Z 0] 31);first|exact h_|(simp only [World.size_alloc] at h_;exact h_))
 replace mT:jh (((w.alloc (.cells #[.pointer (some ⟨b,0,none⟩)] 104)).alloc (.cells #[U Z x.f0.f0,U Z x.f0.f1,U Z x.f1.f0,U Z x.f1.f1] 31)).alloc (.cells #[U Z 0,U Z 0,U Z 0,U Z 0] 31)) b #[U Z s.nx,U Z s.ny,U Z s.cell,U Z s.slot,U Z s.slots,U Z s.layers,U Z s.most,.slice A7 s.shores.length c7,.slice A8 s.currents.length c8,U Z v.speed,U Z v.dive,U Z v.use.f0,U Z v.use.f1,U Z v.drift.f0,U Z v.drift.f1,U Z v.reserve] 110:=(af (af (af mT _) _) _)
 have mB:Below w.heap.size w (((w.alloc (.cells #[.pointer (some ⟨b,0,none⟩)] 104)).alloc (.cells #[U Z x.f0.f0,U Z x.f0.f1,U Z x.f1.f0,U Z x.f1.f1] 31)).alloc (.cells #[U Z 0,U Z 0,U Z 0,U Z 0] 31)):=(bA (bA (bA (Below.refl w.heap.size w) _) _) _)
 have oI:w.heap.size≤w.heap.size:=Nat.le_refl _
 generalize yX:(((w.alloc (.cells #[.pointer (some ⟨b,0,none⟩)] 104)).alloc (.cells #[U Z x.f0.f0,U Z x.f0.f1,U Z x.f1.f0,U Z x.f1.f1] 31)).alloc (.cells #[U Z 0,U Z 0,U Z 0,U Z 0] 31)) = W1 at mT m5 m6 m10 mB ⊢
 clear yX
 generalize hg5:w.heap.size = g5 at m5 m6 m10 ⊢
 have WQ:b≠g5:=by omega
 have alC:g5≠b:=WQ.symm
 have hG5:w.heap.size≤g5:=by omega
 generalize hg6:g5+1 = g6 at m6 m10 ⊢
 have Pf:b≠g6:=by omega
 have Pg:g5≠g6:=by omega
 have adP:g6≠b:=Pf.symm
 have adQ:g6≠g5:=Pg.symm
 have hG6:w.heap.size≤g6:=by omega
 generalize adR:g6+1 = g10 at m10 ⊢
 have Rl:b≠g10:=by omega
 have pU:g5≠g10:=by omega
 have pV:g6≠g10:=by omega
 have afk:g10≠b:=Rl.symm
 have WU:g10≠g5:=pU.symm
 have WV:g10≠g6:=pV.symm
 have rA:w.heap.size≤g10:=by omega
 clear oI Jg
 try clear adR
 try clear hg6
 try clear hg5
 have DR:w.heap.size≤W1.heap.size:=mB.size
 refine O8 (wpIn_wide.2 ?_)
 replace mT:=ag mT
 replace m5:=ag m5
 replace m6:=ag m6
 replace m10:=ag m10
 replace mB:=bO mB
 have wq:wrap64 (s.nx*s.ny) = s.nx*s.ny:=by unfold wrap64;omega
 refine iN (n:=12) (S:=fun w'=>w'.cell? ⟨g5,0,none⟩ = some (.pointer (some ⟨b,0,none⟩))∧w'.cell? ⟨b,0,none⟩ = some (U Z s.nx)∧w'.cell? ⟨b,1,none⟩ = some (U Z s.ny)) (ds:=[]) #[ac,ac,ac,ac,ac,ac,ac,ac,ac,ac,ac,ac] aM rfl rfl ⟨((ah m5 0).trans rfl),((ah mT 0).trans rfl),((ah mT 1).trans rfl)⟩ (fun hHeld=>?_)
 generalize hWd:World.drew _ = Wx at mB mT m5 m6 m10 hHeld ⊢
 clear hWd
 refine iL (i:=0) (N:=some 17) aM hHeld ?_
 refine bV (i:=1) (N:=some 18) aM ?_
 refine bV (i:=2) (N:=some 19) aM ?_
 refine bV (i:=3) (N:=some 20) aM ?_
 refine iL (i:=4) (N:=some 21) aM hHeld ?_
 refine iL (i:=5) (N:=some 22) aM hHeld ?_
 refine bV (i:=6) (N:=some 23) aM ?_
 refine bV (i:=7) (N:=some 24) aM ?_
 refine bV (i:=8) (N:=some 25) aM ?_
 refine iL (i:=9) (N:=some 26) aM hHeld ?_
 refine bV (i:=10) (N:=some 27) aM ?_
 refine bV (i:=11) (N:=some 11) aM ?_
 refine jS aM ?_
 clear wq hHeld
 refine GK ?_
 have Q4:=(ah m5 0).trans rfl
 have cT3:=(ah mT 3).trans rfl
 have cq:∀ o_,(Wx.alloc o_).cell? ⟨g5,0,none⟩ = some (.pointer (some ⟨b,0,none⟩)):=fun o_=>(ah (af m5 o_) 0).trans rfl
 have cq3:∀ o_,(Wx.alloc o_).cell? ⟨b,3,none⟩ = some (U Z s.slot):=fun o_=>(ah (af mT o_) 3).trans rfl
 gi_wp2_with fail
 clear cq cq3 Q4 cT3
 have aaJ:w.heap.size≤Wx.heap.size:=mB.size
 have Jg:=eG mT
 have O6:=eG m5
 have WW:=eG m6
 have TU:=eG m10
 have m12:jh (Wx.alloc (.cells #[.bool true] 4)) (Wx.heap.size) #[.bool true] 4:=(by have h_:=gT Wx (.cells #[.bool true] 4);first|exact h_|(simp only [World.size_alloc] at h_;exact h_))
 replace mT:jh (Wx.alloc (.cells #[.bool true] 4)) b #[U Z s.nx,U Z s.ny,U Z s.cell,U Z s.slot,U Z s.slots,U Z s.layers,U Z s.most,.slice A7 s.shores.length c7,.slice A8 s.currents.length c8,U Z v.speed,U Z v.dive,U Z v.use.f0,U Z v.use.f1,U Z v.drift.f0,U Z v.drift.f1,U Z v.reserve] 110:=(af mT _)
 replace m5:jh (Wx.alloc (.cells #[.bool true] 4)) g5 #[.pointer (some ⟨b,0,none⟩)] 104:=(af m5 _)
 replace m6:jh (Wx.alloc (.cells #[.bool true] 4)) g6 #[U Z x.f0.f0,U Z x.f0.f1,U Z x.f1.f0,U Z x.f1.f1] 31:=(af m6 _)
 replace m10:jh (Wx.alloc (.cells #[.bool true] 4)) g10 #[U Z 0,U Z 0,U Z 0,U Z 0] 31:=(af m10 _)
 replace mB:Below w.heap.size w (Wx.alloc (.cells #[.bool true] 4)):=(bA mB _)
 have oI:w.heap.size≤Wx.heap.size:=aaJ
 generalize yX:(Wx.alloc (.cells #[.bool true] 4)) = W2 at mT m5 m6 m10 m12 mB ⊢
 clear yX
 generalize ayn:Wx.heap.size = g12 at m12 ⊢
 have xz:b≠g12:=by omega
 have GU:g5≠g12:=by omega
 have qx:g6≠g12:=by omega
 have mO:g10≠g12:=by omega
 have apZ:g12≠b:=xz.symm
 have ap0:g12≠g5:=GU.symm
 have ap1:g12≠g6:=qx.symm
 have lu:g12≠g10:=mO.symm
 have MN:w.heap.size≤g12:=by omega
 clear oI Jg O6 WW TU
 try clear ayn
 have Dl:w.heap.size≤W2.heap.size:=mB.size
 refine wpIn_loop (fun a W=>∃ (q:Nat) (j:Int) (Ds:List Nat) (u_:Nat→Value),a = { tmps:=#[(u_ 0),(u_ 1),U Z layer,(u_ 3),U Z u,.pointer (some ⟨g5,0,none⟩),.pointer (some ⟨g6,0,none⟩),(u_ 7),(u_ 8),(u_ 9),.pointer (some ⟨g10,0,none⟩),U Z (s.nx*s.ny),.pointer (some ⟨g12,0,none⟩),U Z j,(u_ 14),(u_ 15),(u_ 16),(u_ 17),(u_ 18),(u_ 19),(u_ 20),(u_ 21),(u_ 22),(u_ 23),(u_ 24),(u_ 25),(u_ 26),(u_ 27),(u_ 28),(u_ 29),(u_ 30),(u_ 31),(u_ 32),(u_ 33),(u_ 34),(u_ 35),(u_ 36),(u_ 37),(u_ 38),(u_ 39),(u_ 40),(u_ 41),(u_ 42),(u_ 43),(u_ 44),(u_ 45),(u_ 46),(u_ 47),(u_ 48),(u_ 49),(u_ 50),(u_ 51),(u_ 52),(u_ 53),(u_ 54),(u_ 55),(u_ 56),(u_ 57),(u_ 58),(u_ 59),(u_ 60),(u_ 61),(u_ 62),(u_ 63),(u_ 64),(u_ 65),(u_ 66),(u_ 67),(u_ 68),(u_ 69),(u_ 70),(u_ 71),(u_ 72),(u_ 73),(u_ 74),(u_ 75),(u_ 76),(u_ 77),(u_ 78),(u_ 79),(u_ 80),(u_ 81),(u_ 82),(u_ 83),(u_ 84),(u_ 85),(u_ 86),(u_ 87),(u_ 88),(u_ 89),(u_ 90),(u_ 91)],defers:=Ds.map mark }∧Hid (j = j0+(q:Int))∧q≤(j1+1 - j0).toNat∧Marks W w.heap.size Ds∧jh W g5 #[.pointer (some ⟨b,0,none⟩)] 104∧jh W g6 #[U Z x.f0.f0,U Z x.f0.f1,U Z x.f1.f0,U Z x.f1.f1] 31∧jh W g10 #[U Z (mh (kg s x layer j0 q)).f0.f0,U Z (mh (kg s x layer j0 q)).f0.f1,U Z (mh (kg s x layer j0 q)).f1.f0,U Z (mh (kg s x layer j0 q)).f1.f1] 31∧jh W g12 #[.bool (wU (kg s x layer j0 q)).isNone] 4∧Below w.heap.size w W) (fun a _=>(j1+1 - intOf (a.tmps.getD 13 undef)).toNat) ⟨0,j0,[],(fun k=>(#[.pointer (some ⟨b,0,none⟩),.agg #[U Z x.f0.f0,U Z x.f0.f1,U Z x.f1.f0,U Z x.f1.f1],U Z layer,U Z t,U Z u,.pointer (some ⟨g5,0,none⟩),.pointer (some ⟨g6,0,none⟩),undef,undef,undef,.pointer (some ⟨g10,0,none⟩),U Z (s.nx*s.ny),.pointer (some ⟨g12,0,none⟩),U Z j0,undef,undef,undef,.pointer (some ⟨b,0,none⟩),.pointer (some ⟨b,0,none⟩),.pointer (some ⟨b,0,none⟩),.pointer (some ⟨b,0,none⟩),U Z s.nx,.pointer (some ⟨b,0,none⟩),.pointer (some ⟨b,0,none⟩),.pointer (some ⟨b,0,none⟩),.pointer (some ⟨b,1,none⟩),U Z s.ny,U Z (wrap64 (s.nx*s.ny)),U Z t,.pointer (some ⟨b,0,none⟩),.pointer (some ⟨b,0,none⟩),.pointer (some ⟨b,0,none⟩),.pointer (some ⟨b,3,none⟩),U Z s.slot,U Z j0,undef,undef,undef,undef,undef,undef,undef,undef,undef,undef,undef,undef,undef,undef,undef,undef,undef,undef,undef,undef,undef,undef,undef,undef,undef,undef,undef,undef,undef,undef,undef,undef,undef,undef,undef,undef,undef,undef,undef,undef,undef,undef,undef,undef,undef,undef,undef,undef,undef,undef,undef,undef,undef,undef,undef,undef,undef]:Array Value).getD k undef),rfl,Lib.hid (by omega),Nat.zero_le _,Marks.nil _ _,m5,m6,m10,m12,mB⟩ ?_
 clear m5 m6 m10 m12 mB mT
 rintro a_ W ⟨q,j,Ds,u_,rfl,HJ,hq,hM,m5,m6,m10,m12,mB⟩
 have aWs:w.heap.size≤W.heap.size:=mB.size
 obtain ⟨A7,c7,A8,c8,mT,_,_,hc8,hC8⟩:=hT.below mB
 have cT3:=(ah mT 3).trans rfl
 have cT5:=(ah mT 5).trans rfl
 have Q4:=(ah m5 0).trans rfl
 have adS:∀ o_,(W.alloc o_).cell? ⟨g6,0,none⟩ = some (U Z x.f0.f0):=fun o_=>(ah (af m6 o_) 0).trans rfl
 have adT:∀ o_,(W.alloc o_).cell? ⟨g6,1,none⟩ = some (U Z x.f0.f1):=fun o_=>(ah (af m6 o_) 1).trans rfl
 have adU:∀ o_,(W.alloc o_).cell? ⟨g6,2,none⟩ = some (U Z x.f1.f0):=fun o_=>(ah (af m6 o_) 2).trans rfl
 have adV:∀ o_,(W.alloc o_).cell? ⟨g6,3,none⟩ = some (U Z x.f1.f1):=fun o_=>(ah (af m6 o_) 3).trans rfl
 have TK:∀ o_,(W.alloc o_).cell? ⟨g5,0,none⟩ = some (.pointer (some ⟨b,0,none⟩)):=fun o_=>(ah (af m5 o_) 0).trans rfl
 have hjj:j0≤j:=by have:=HJ.out;omega
 by_cases hlt:j≤j1
 case neg =>
  have hqe:q = (j1+1 - j0).toNat:=by have:=HJ.out;omega
  have HQ:=Lib.hid hqe
  clear hqe TK adS adT adU adV
  have HRR:=HR.out
  rw [← HQ.out] at HRR
  have HR2:=Lib.hid HRR
  clear HRR
  generalize (kg s x layer j0 q) = L at*
  have MO:=(ah m10 0).trans rfl
  have aaT:=bf m10 0
  have MP:=(ah m10 1).trans rfl
  have aaU:=bf m10 1
  have MQ:=(ah m10 2).trans rfl
  have aaV:=bf m10 2
  have MR:=(ah m10 3).trans rfl
  have aaW:=bf m10 3
  skip
  gi_wp2
  exact MM (fun X=>jh X g10 #[U Z (mh L).f0.f0,U Z (mh L).f0.f1,U Z (mh L).f1.f0,U Z (mh L).f1.f1] 31∧Below w.heap.size w X) (fun X D_ h hB hD=>⟨(World.putObj_heap_other (fun e=>by have h1:=h.1;unfold jh at h1;rw [e,hD] at h1;cases h1)).trans h.1,h.2.trans (belowK_b (w:=w) (Nat.le_refl _) X D_ _ _ hB hD rfl rfl)⟩) (fun X h=>⟨_,results_cell_row rfl _ _ g10 31 #[U Z (mh L).f0.f0,U Z (mh L).f0.f1,U Z (mh L).f1.f0,U Z (mh L).f1.f1] (0,0) _ rfl h.1 Try.underlying31 rfl aM,by rw [HR2.out];rfl,h.2⟩) Ds _ (Marks.set (Marks.set (Marks.set (Marks.set hM m10 (i:=0) _) (aN m10 0 (U Z (mh L).f0.f0) rfl) (i:=1) _) (aN (aN m10 0 (U Z (mh L).f0.f0) rfl) 1 (U Z (mh L).f0.f1) rfl) (i:=2) _) (aN (aN (aN m10 0 (U Z (mh L).f0.f0) rfl) 1 (U Z (mh L).f0.f1) rfl) 2 (U Z (mh L).f1.f0) rfl) (i:=3) _) ⟨(aN (aN (aN (aN m10 0 (U Z (mh L).f0.f0) rfl) 1 (U Z (mh L).f0.f1) rfl) 2 (U Z (mh L).f1.f0) rfl) 3 (U Z (mh L).f1.f1) rfl),(Below.setCell (p:=⟨g10,3,none⟩) (Below.setCell (p:=⟨g10,2,none⟩) (Below.setCell (p:=⟨g10,1,none⟩) (Below.setCell (p:=⟨g10,0,none⟩) mB rA _) rA _) rA _) rA _)⟩
 case pos =>
  skip
  have hq2:q+1≤(j1+1 - j0).toNat:=by have:=HJ.out;omega
  have HJ2:Hid (j+1 = j0+((q+1:Nat):Int)):=Lib.hid (by have:=HJ.out;omega)
  have p1:=iI (show 0≤j by omega) (show j≤15 by omega) (show 0≤s.layers by omega) hla.2
  have p2:=iI (show 0≤j*s.layers+layer by omega) (show j*s.layers+layer≤50 by omega) hxy.1 hxy.2
  gi_wp2_with fail
  refine ⟨trivial,(callsIn_wide.2 (QB _ _ _)).mono ?_⟩
  rintro e W_ ⟨rfl,rfl⟩
  gi_wp2_with fail
  clear cT3 cT5 Q4 TK adS adT adU adV
  have a6m:=hS.nx
  have hM0:Marks (((W.alloc (.cells #[U Z ((j*s.layers+layer)*(s.nx*s.ny))] 3)).alloc (.cells #[.pointer (some ⟨b,0,none⟩)] 104)).alloc (.cells #[U Z x.f0.f0,U Z x.f0.f1,U Z x.f1.f0,U Z x.f1.f1] 31)) w.heap.size Ds:=hM.below (bA (bA (bA (Below.refl _ W) _) _) _)
  have Jg:=eG mT
  have O6:=eG m5
  have WW:=eG m6
  have TU:=eG m10
  have alP:=eG m12
  have m14:jh (((W.alloc (.cells #[U Z ((j*s.layers+layer)*(s.nx*s.ny))] 3)).alloc (.cells #[.pointer (some ⟨b,0,none⟩)] 104)).alloc (.cells #[U Z x.f0.f0,U Z x.f0.f1,U Z x.f1.f0,U Z x.f1.f1] 31)) (W.heap.size) #[U Z ((j*s.layers+layer)*(s.nx*s.ny))] 3:=(af (af (by have h_:=gT W (.cells #[U Z ((j*s.layers+layer)*(s.nx*s.ny))] 3);first|exact h_|(simp only [World.size_alloc] at h_;exact h_)) _) _)
  have mP:jh (((W.alloc (.cells #[U Z ((j*s.layers+layer)*(s.nx*s.ny))] 3)).alloc (.cells #[.pointer (some ⟨b,0,none⟩)] 104)).alloc (.cells #[U Z x.f0.f0,U Z x.f0.f1,U Z x.f1.f0,U Z x.f1.f1] 31)) (W.heap.size+1) #[.pointer (some ⟨b,0,none⟩)] 104:=(af (by have h_:=gT (W.alloc (.cells #[U Z ((j*s.layers+layer)*(s.nx*s.ny))] 3)) (.cells #[.pointer (some ⟨b,0,none⟩)] 104);first|exact h_|(simp only [World.size_alloc] at h_;exact h_)) _)
  have mX:jh (((W.alloc (.cells #[U Z ((j*s.layers+layer)*(s.nx*s.ny))] 3)).alloc (.cells #[.pointer (some ⟨b,0,none⟩)] 104)).alloc (.cells #[U Z x.f0.f0,U Z x.f0.f1,U Z x.f1.f0,U Z x.f1.f1] 31)) (W.heap.size+1+1) #[U Z x.f0.f0,U Z x.f0.f1,U Z x.f1.f0,U Z x.f1.f1] 31:=(by have h_:=gT ((W.alloc (.cells #[U Z ((j*s.layers+layer)*(s.nx*s.ny))] 3)).alloc (.cells #[.pointer (some ⟨b,0,none⟩)] 104)) (.cells #[U Z x.f0.f0,U Z x.f0.f1,U Z x.f1.f0,U Z x.f1.f1] 31);first|exact h_|(simp only [World.size_alloc] at h_;exact h_))
  replace mT:jh (((W.alloc (.cells #[U Z ((j*s.layers+layer)*(s.nx*s.ny))] 3)).alloc (.cells #[.pointer (some ⟨b,0,none⟩)] 104)).alloc (.cells #[U Z x.f0.f0,U Z x.f0.f1,U Z x.f1.f0,U Z x.f1.f1] 31)) b #[U Z s.nx,U Z s.ny,U Z s.cell,U Z s.slot,U Z s.slots,U Z s.layers,U Z s.most,.slice A7 s.shores.length c7,.slice A8 s.currents.length c8,U Z v.speed,U Z v.dive,U Z v.use.f0,U Z v.use.f1,U Z v.drift.f0,U Z v.drift.f1,U Z v.reserve] 110:=(af (af (af mT _) _) _)
  replace m5:jh (((W.alloc (.cells #[U Z ((j*s.layers+layer)*(s.nx*s.ny))] 3)).alloc (.cells #[.pointer (some ⟨b,0,none⟩)] 104)).alloc (.cells #[U Z x.f0.f0,U Z x.f0.f1,U Z x.f1.f0,U Z x.f1.f1] 31)) g5 #[.pointer (some ⟨b,0,none⟩)] 104:=(af (af (af m5 _) _) _)
  replace m6:jh (((W.alloc (.cells #[U Z ((j*s.layers+layer)*(s.nx*s.ny))] 3)).alloc (.cells #[.pointer (some ⟨b,0,none⟩)] 104)).alloc (.cells #[U Z x.f0.f0,U Z x.f0.f1,U Z x.f1.f0,U Z x.f1.f1] 31)) g6 #[U Z x.f0.f0,U Z x.f0.f1,U Z x.f1.f0,U Z x.f1.f1] 31:=(af (af (af m6 _) _) _)
  replace m10:jh (((W.alloc (.cells #[U Z ((j*s.layers+layer)*(s.nx*s.ny))] 3)).alloc (.cells #[.pointer (some ⟨b,0,none⟩)] 104)).alloc (.cells #[U Z x.f0.f0,U Z x.f0.f1,U Z x.f1.f0,U Z x.f1.f1] 31)) g10 #[U Z (mh (kg s x layer j0 q)).f0.f0,U Z (mh (kg s x layer j0 q)).f0.f1,U Z (mh (kg s x layer j0 q)).f1.f0,U Z (mh (kg s x layer j0 q)).f1.f1] 31:=(af (af (af m10 _) _) _)
  replace m12:jh (((W.alloc (.cells #[U Z ((j*s.layers+layer)*(s.nx*s.ny))] 3)).alloc (.cells #[.pointer (some ⟨b,0,none⟩)] 104)).alloc (.cells #[U Z x.f0.f0,U Z x.f0.f1,U Z x.f1.f0,U Z x.f1.f1] 31)) g12 #[.bool (wU (kg s x layer j0 q)).isNone] 4:=(af (af (af m12 _) _) _)
  replace mB:Below w.heap.size w (((W.alloc (.cells #[U Z ((j*s.layers+layer)*(s.nx*s.ny))] 3)).alloc (.cells #[.pointer (some ⟨b,0,none⟩)] 104)).alloc (.cells #[U Z x.f0.f0,U Z x.f0.f1,U Z x.f1.f0,U Z x.f1.f1] 31)):=(bA (bA (bA mB _) _) _)
  have oI:w.heap.size≤W.heap.size:=aWs
  generalize yX:(((W.alloc (.cells #[U Z ((j*s.layers+layer)*(s.nx*s.ny))] 3)).alloc (.cells #[.pointer (some ⟨b,0,none⟩)] 104)).alloc (.cells #[U Z x.f0.f0,U Z x.f0.f1,U Z x.f1.f0,U Z x.f1.f1] 31)) = W0 at mT m5 m6 m10 m12 m14 mP mX mB hM0 ⊢
  clear yX
  generalize ayo:W.heap.size = g14 at m14 mP mX ⊢
  have afl:b≠g14:=by omega
  have MS:g5≠g14:=by omega
  have afm:g6≠g14:=by omega
  have aaX:g10≠g14:=by omega
  have aaY:g12≠g14:=by omega
  have ap2:g14≠b:=afl.symm
  have pg:g14≠g5:=MS.symm
  have ap3:g14≠g6:=afm.symm
  have rP:g14≠g10:=aaX.symm
  have FB:g14≠g12:=aaY.symm
  have a6n:w.heap.size≤g14:=by omega
  generalize hgP:g14+1 = gP at mP mX ⊢
  have alQ:b≠gP:=by omega
  have alR:g5≠gP:=by omega
  have alS:g6≠gP:=by omega
  have afn:g10≠gP:=by omega
  have afo:g12≠gP:=by omega
  have afp:g14≠gP:=by omega
  have ayp:gP≠b:=alQ.symm
  have ayq:gP≠g5:=alR.symm
  have ayr:gP≠g6:=alS.symm
  have vS:gP≠g10:=afn.symm
  have JH:gP≠g12:=afo.symm
  have ap4:gP≠g14:=afp.symm
  have hGP:w.heap.size≤gP:=by omega
  generalize hgX:gP+1 = gX at mX ⊢
  have alT:b≠gX:=by omega
  have alU:g5≠gX:=by omega
  have alV:g6≠gX:=by omega
  have afq:g10≠gX:=by omega
  have afr:g12≠gX:=by omega
  have afs:g14≠gX:=by omega
  have WT:gP≠gX:=by omega
  have ays:gX≠b:=alT.symm
  have ayt:gX≠g5:=alU.symm
  have ayu:gX≠g6:=alV.symm
  have vT:gX≠g10:=afq.symm
  have JI:gX≠g12:=afr.symm
  have ap5:gX≠g14:=afs.symm
  have alM:gX≠gP:=WT.symm
  have hGX:w.heap.size≤gX:=by omega
  clear oI Jg O6 WW TU alP
  try clear hgX
  try clear hgP
  try clear ayo
  have VG:w.heap.size≤W0.heap.size:=mB.size
  have hDs:∀ D_ ∈ Ds,D_ < W0.heap.size:=fun D_ h=>(Array.getElem?_eq_some_iff.1 (hM0.2 D_ h).2).1
  have HN:Hid (g5≠g10∧g5≠g12∧g6≠g10∧g6≠g12∧g14≠g10∧g14≠g12∧g10≠g12∧g12≠g10∧gP≠g10∧gX≠g10∧gP≠g12∧gX≠g12):=Lib.hid ⟨pU,GU,pV,qx,rP,FB,mO,lu,vS,vT,JH,JI⟩
  try clear WQ Pf Rl xz afl
  try clear alQ
  try clear alT
  try clear alC
  try clear Pg pU GU MS
  try clear alR
  try clear alU
  try clear adP
  try clear adQ pV qx afm
  try clear alS
  try clear alV
  try clear afk
  try clear WU WV mO aaX
  try clear afn
  try clear afq
  try clear apZ
  try clear ap0 ap1 lu aaY
  try clear afo
  try clear afr
  try clear ap2
  try clear pg ap3 rP FB
  try clear afp
  try clear afs
  try clear ayp
  try clear ayq ayr vS JH ap4
  try clear WT
  try clear ays
  try clear ayt ayu vT JI ap5
  try clear alM
  refine wpIn_rangeFunc_ownH rfl (by omega) (gf:=135) (lb:=#[.pointer (some ⟨gP,0,none⟩),.pointer (some ⟨gX,0,none⟩)]) rfl trivial (enters_of Try.func135 aM rfl)
   (encs:=fun c:Fz s=>#[U Z c.1]) (Kp:=LB w gP gX b x) (S:=alH s x) (Sp:=apV s x) (N:=(rz s x).length) (w0:=W0)
   (fun l J Jx X_ hW hJ _ hY h0=>QC 5 (by omega) l gP gX w b s v x hT hS hx (LB w gP gX b x) (fun A B h hE=>⟨hE.1.trans h.1,h.2.1 hE.2.1,h.2.2 hE.2.2⟩) J Jx hY (fun f X Y h hB=>hJ f X Y none h ⟨hB.os,hB.tape,hB.output,hB.size,fun k hk _=>hB.block k hk⟩ (fun r e=>by cases e)) X_ ⟨dY mB hW,jh.O9 mP hW,jh.O9 mX hW⟩ h0) LB.trans (LB.put VG (eG mP) (eG mX)) (Below.refl _ _) (fun _=>rfl)
   (fun pre W=>jh W g5 #[.pointer (some ⟨b,0,none⟩)] 104∧jh W g6 #[U Z x.f0.f0,U Z x.f0.f1,U Z x.f1.f0,U Z x.f1.f1] 31∧jh W g14 #[U Z ((j*s.layers+layer)*(s.nx*s.ny))] 3∧jh W g10 #[U Z (mh (kg s x layer j0 q++(pre.map fun c=>yZ s layer j c.1))).f0.f0,U Z (mh (kg s x layer j0 q++(pre.map fun c=>yZ s layer j c.1))).f0.f1,U Z (mh (kg s x layer j0 q++(pre.map fun c=>yZ s layer j c.1))).f1.f0,U Z (mh (kg s x layer j0 q++(pre.map fun c=>yZ s layer j c.1))).f1.f1] 31∧jh W g12 #[.bool (wU (kg s x layer j0 q++(pre.map fun c=>yZ s layer j c.1))).isNone] 4∧Marks W w.heap.size Ds∧Below w.heap.size w W)
   (fun c pre W=>False)
   (OwnFrom.and (tL _ _ (fun _=>_) _) (OwnFrom.and (tL _ _ (fun _=>_) _) (OwnFrom.and (tL _ _ (fun _=>_) _) (OwnFrom.and (tL _ _ (fun pre:List (Fz s)=>#[U Z (mh (kg s x layer j0 q++(pre.map fun c=>yZ s layer j c.1))).f0.f0,U Z (mh (kg s x layer j0 q++(pre.map fun c=>yZ s layer j c.1))).f0.f1,U Z (mh (kg s x layer j0 q++(pre.map fun c=>yZ s layer j c.1))).f1.f0,U Z (mh (kg s x layer j0 q++(pre.map fun c=>yZ s layer j c.1))).f1.f1]) _) (OwnFrom.and (tL _ _ (fun pre:List (Fz s)=>#[.bool (wU (kg s x layer j0 q++(pre.map fun c=>yZ s layer j c.1))).isNone]) _) (OwnFrom.and (U8 _ _ Ds hDs) (ownFrom_below (by omega) (by omega))))))))
   (fun c pre X Y row hs hg hr=>hs)
   ⟨m5,m6,m14,by rw [List.map_nil,List.append_nil];exact m10,by rw [List.map_nil,List.append_nil];exact m12,hM0,mB⟩
   (fun c a' W=>∃ u_:Nat→Value,a' = { tmps:=#[(u_ 0),(u_ 1),(u_ 2),(u_ 3),(u_ 4),.pointer (some ⟨g5,0,none⟩),(u_ 6),(u_ 7),(u_ 8),(u_ 9),.pointer (some ⟨g10,0,none⟩),(u_ 11),.pointer (some ⟨g12,0,none⟩),(u_ 13),.pointer (some ⟨g14,0,none⟩),U Z c.1,(u_ 16),(u_ 17),(u_ 18),(u_ 19),(u_ 20),(u_ 21),(u_ 22),(u_ 23),(u_ 24),(u_ 25),(u_ 26),(u_ 27),(u_ 28),(u_ 29),(u_ 30),(u_ 31),(u_ 32),(u_ 33),(u_ 34),(u_ 35),(u_ 36),(u_ 37),(u_ 38),(u_ 39),(u_ 40),(u_ 41),(u_ 42),(u_ 43),(u_ 44),(u_ 45),(u_ 46),(u_ 47),(u_ 48),(u_ 49),(u_ 50),(u_ 51),(u_ 52),(u_ 53),(u_ 54),(u_ 55),(u_ 56),(u_ 57),(u_ 58),(u_ 59),(u_ 60),(u_ 61),(u_ 62),(u_ 63),(u_ 64),(u_ 65),(u_ 66),(u_ 67),(u_ 68),(u_ 69),(u_ 70),(u_ 71),(u_ 72),(u_ 73),(u_ 74),(u_ 75),(u_ 76),(u_ 77),(u_ 78),(u_ 79),(u_ 80),(u_ 81),(u_ 82),(u_ 83),(u_ 84),(u_ 85),(u_ 86),(u_ 87),(u_ 88),(u_ 89),(u_ 90),(u_ 91)],defers:=[] })
   (fun c a' s X Y row hs hg hr=>hs) ?assign ?body ?done ?stop
  case assign =>
   rintro l pre c X_ K hI hK
   gi_wp2
   exact hK _ _ ((KeepsOthers.refl X_).from _) (LB.below hI.2.2.2.2.2.2.size (Below.refl _ _)) hI ⟨(fun k=>(#[(u_ 0),(u_ 1),U Z layer,(u_ 3),U Z u,.pointer (some ⟨g5,0,none⟩),.pointer (some ⟨g6,0,none⟩),(u_ 7),(u_ 8),(u_ 9),.pointer (some ⟨g10,0,none⟩),U Z (s.nx*s.ny),.pointer (some ⟨g12,0,none⟩),U Z j,.pointer (some ⟨g14,0,none⟩),U Z c.1,(u_ 16),(u_ 17),(u_ 18),(u_ 19),(u_ 20),(u_ 21),(u_ 22),(u_ 23),(u_ 24),(u_ 25),(u_ 26),(u_ 27),(u_ 28),(u_ 29),(u_ 30),(u_ 31),(u_ 32),(u_ 33),(u_ 34),U Z j,U Z u,U Z (u - 1),.pointer (some ⟨b,0,none⟩),.pointer (some ⟨b,0,none⟩),.pointer (some ⟨b,0,none⟩),.pointer (some ⟨b,3,none⟩),U Z s.slot,U Z j1,.bool true,(u_ 45),(u_ 46),U Z j,.pointer (some ⟨b,0,none⟩),.pointer (some ⟨b,0,none⟩),.pointer (some ⟨b,0,none⟩),.pointer (some ⟨b,5,none⟩),U Z s.layers,U Z (j*s.layers),U Z layer,U Z (j*s.layers+layer),U Z (s.nx*s.ny),U Z ((j*s.layers+layer)*(s.nx*s.ny)),.pointer (some ⟨b,0,none⟩),.agg #[U Z x.f0.f0,U Z x.f0.f1,U Z x.f1.f0,U Z x.f1.f1],.func (.func 135) #[] #[.pointer (some ⟨gP,0,none⟩),.pointer (some ⟨gX,0,none⟩)],U Z c.1,(u_ 62),(u_ 63),(u_ 64),(u_ 65),(u_ 66),(u_ 67),(u_ 68),(u_ 69),(u_ 70),(u_ 71),(u_ 72),(u_ 73),(u_ 74),(u_ 75),(u_ 76),(u_ 77),(u_ 78),(u_ 79),(u_ 80),(u_ 81),(u_ 82),(u_ 83),(u_ 84),(u_ 85),(u_ 86),(u_ 87),(u_ 88),(u_ 89),(u_ 90),(u_ 91)]:Array Value).getD k undef),rfl⟩
  case stop =>
   rintro D_ c pre X_ hD hp h hK
   exact h.elim
  case done =>
   rintro D_ xs X_ hD hxs ⟨m5,m6,m14,m10,m12,hM,mB⟩ hK
   have hL:kg s x layer j0 q++xs.map (fun c=>yZ s layer j c.1) = kg s x layer j0 (q+1):=by rw [aaS];unfold slotL;rw [← (show xs.map Subtype.val = rz s x from hxs),List.map_map,← HJ.out];rfl
   rw [hL] at m10 m12
   clear hL
   have hM2:=hM.cons (fun h=>absurd (hDs D_ h) (Nat.not_lt.2 hD)) (Nat.le_trans VG hD) hK
   gi_wp2
   skip
   exact ⟨⟨q+1,j+1,D_ :: Ds,(fun k=>(#[(u_ 0),(u_ 1),U Z layer,(u_ 3),U Z u,.pointer (some ⟨g5,0,none⟩),.pointer (some ⟨g6,0,none⟩),(u_ 7),(u_ 8),(u_ 9),.pointer (some ⟨g10,0,none⟩),U Z (s.nx*s.ny),.pointer (some ⟨g12,0,none⟩),U Z (j+1),.pointer (some ⟨g14,0,none⟩),(u_ 15),(u_ 16),(u_ 17),(u_ 18),(u_ 19),(u_ 20),(u_ 21),(u_ 22),(u_ 23),(u_ 24),(u_ 25),(u_ 26),(u_ 27),(u_ 28),(u_ 29),(u_ 30),(u_ 31),(u_ 32),(u_ 33),(u_ 34),U Z j,U Z u,U Z (u - 1),.pointer (some ⟨b,0,none⟩),.pointer (some ⟨b,0,none⟩),.pointer (some ⟨b,0,none⟩),.pointer (some ⟨b,3,none⟩),U Z s.slot,U Z j1,.bool true,U Z j,U Z (j+1),U Z j,.pointer (some ⟨b,0,none⟩),.pointer (some ⟨b,0,none⟩),.pointer (some ⟨b,0,none⟩),.pointer (some ⟨b,5,none⟩),U Z s.layers,U Z (j*s.layers),U Z layer,U Z (j*s.layers+layer),U Z (s.nx*s.ny),U Z ((j*s.layers+layer)*(s.nx*s.ny)),.pointer (some ⟨b,0,none⟩),.agg #[U Z x.f0.f0,U Z x.f0.f1,U Z x.f1.f0,U Z x.f1.f1],.func (.func 135) #[] #[.pointer (some ⟨gP,0,none⟩),.pointer (some ⟨gX,0,none⟩)],(u_ 61),(u_ 62),(u_ 63),(u_ 64),(u_ 65),(u_ 66),(u_ 67),(u_ 68),(u_ 69),(u_ 70),(u_ 71),(u_ 72),(u_ 73),(u_ 74),(u_ 75),(u_ 76),(u_ 77),(u_ 78),(u_ 79),(u_ 80),(u_ 81),(u_ 82),(u_ 83),(u_ 84),(u_ 85),(u_ 86),(u_ 87),(u_ 88),(u_ 89),(u_ 90),(u_ 91)]:Array Value).getD k undef),rfl,HJ2,hq2,hM2,m5,m6,m10,m12,mB⟩,by simp [intOf];omega⟩
  case body =>
   skip
   rintro l pre c a_ X_ hlW ⟨r,hr⟩ ⟨m5,m6,m14,m10,m12,hM,mB⟩ ⟨u_,rfl⟩ hlen
   have hXs:W0.heap.size≤X_.heap.size:=Nat.le_trans hlW (Nat.le_of_lt (eG hr))
   clear hr
   have hN:Below X_.heap.size X_ X_:=Below.refl _ _
   obtain ⟨A7,c7,A8,c8,mT,_,_,hc8,hC8⟩:=hT.below mB
   have hidx:=TR (q:=j) (l:=layer) (k:=s.nx*s.ny) (c:=c.1) (ll:=s.slots) (kk:=s.layers) (by omega) (by omega) hl0 hl1 c.2.1 c.2.2
   rw [← HCU.out] at hidx
   have HY:Hid (yZ s layer j c.1 = ⟨(ay s.currents ((j*s.layers+layer)*(s.nx*s.ny)+c.1)).f0,(ay s.currents ((j*s.layers+layer)*(s.nx*s.ny)+c.1)).f1⟩):=Lib.hid rfl
   obtain ⟨hi0,hi1⟩:=hidx
   obtain ⟨ad,e_,hy0,hy1,hy2,hy3⟩:=zo hC8 _ hi0 hi1
   cases e_
   clear hC8
   generalize ay s.currents ((j*s.layers+layer)*(s.nx*s.ny)+c.1) = y at*
   generalize (j*s.layers+layer)*(s.nx*s.ny) = R at*
   have wR:wrap64 (R+c.1) = R+c.1:=by unfold wrap64;have:=c.2;omega
   have hm0:wU (kg s x layer j0 q++(pre.map fun c=>yZ s layer j c.1)) = wU (kg s x layer j0 q++(pre.map fun c=>yZ s layer j c.1)):=rfl
   generalize aBt:(kg s x layer j0 q++(pre.map fun c=>yZ s layer j c.1)) = L at*
   have hLL:=Lib.hid aBt
   clear hm0 aBt
   gi_wp2_with fail
   replace mT:=ag mT
   replace m5:=ag m5
   replace m6:=ag m6
   replace m10:=ag m10
   replace m12:=ag m12
   replace m14:=ag m14
   replace mB:=bO mB
   replace hy0:=((bO (Below.refl X_.heap.size X_)).cell (World.block_lt_of_cell? X_ _ hy0)).trans hy0
   replace hy1:=((bO (Below.refl X_.heap.size X_)).cell (World.block_lt_of_cell? X_ _ hy1)).trans hy1
   replace hy2:=((bO (Below.refl X_.heap.size X_)).cell (World.block_lt_of_cell? X_ _ hy2)).trans hy2
   replace hy3:=((bO (Below.refl X_.heap.size X_)).cell (World.block_lt_of_cell? X_ _ hy3)).trans hy3
   replace hM:=hM.below (bO (Below.refl _ X_))
   replace hN:=bO hN
   refine alW (m:=25) (S:=fun w'=>w'.cell? ⟨g5,0,none⟩ = some (.pointer (some ⟨b,0,none⟩))∧w'.cell? ⟨g14,0,none⟩ = some (U Z R)∧w'.cell? ⟨b,8,none⟩ = some (.slice (some ad) s.currents.length c8)∧w'.cell? (ad.add ((R+c.1).toNat*4)) = some (U Z y.f0.f0)∧w'.cell? ⟨(ad.add ((R+c.1).toNat*4)).block,(ad.add ((R+c.1).toNat*4)).off+1,none⟩ = some (U Z y.f0.f1)∧w'.cell? ⟨(ad.add ((R+c.1).toNat*4)).block,(ad.add ((R+c.1).toNat*4)).off+2,none⟩ = some (U Z y.f1.f0)∧w'.cell? ⟨(ad.add ((R+c.1).toNat*4)).block,(ad.add ((R+c.1).toNat*4)).off+3,none⟩ = some (U Z y.f1.f1)) (ds:=[24]) #[ac,ac,ac,ac,ac,ac,ac,ac,ac,ac,ac,ac,ac,ac,ac,ac,ac,ac,ac,ac,ac,ac,ac,ac,ac] aM (WX (Q6 WY)) aM rfl rfl ⟨((ah m5 0).trans rfl),((ah m14 0).trans rfl),((ah mT 8).trans rfl),hy0,hy1,hy2,hy3⟩ (fun hHeld=>?_)
   generalize hWd:World.drew _ = Wx at mB mT m5 m6 m10 m12 m14 hM hN hy0 hy1 hy2 hy3 hHeld ⊢
   clear hWd
   refine bV (i:=6) (N:=some 68) aM ?_
   refine bV (i:=17) (N:=some 79) aM ?_
   refine iL (i:=0) (N:=some 62) aM hHeld ?_
   refine bV (i:=1) (N:=some 63) aM ?_
   refine bV (i:=2) (N:=some 64) aM ?_
   refine bV (i:=3) (N:=some 65) aM ?_
   refine iL (i:=4) (N:=some 66) aM hHeld ?_
   refine iL (i:=5) (N:=some 67) aM hHeld ?_
   refine bV (i:=7) (N:=some 69) aM ?_
   refine bV (i:=8) (N:=some 70) aM ?_
   refine bV (i:=9) (N:=some 71) aM ?_
   refine iL (i:=10) (N:=some 72) aM hHeld ?_
   refine iL (i:=11) (N:=some 73) aM hHeld ?_
   refine bV (i:=12) (N:=some 74) aM ?_
   refine bV (i:=13) (N:=some 75) aM ?_
   refine bV (i:=14) (N:=some 76) aM ?_
   refine iL (i:=15) (N:=some 77) aM hHeld ?_
   refine iL (i:=16) (N:=some 78) aM hHeld ?_
   refine bV (i:=18) (N:=some 80) aM ?_
   refine bV (i:=19) (N:=some 81) aM ?_
   refine bV (i:=20) (N:=some 82) aM ?_
   refine iL (i:=21) (N:=some 83) aM hHeld ?_
   refine bV (i:=22) (N:=some 84) aM ?_
   refine iO (i:=23) (N:=some 16) #[ab,ab,ab,ab,ab,ab,ab,ab,ab,ab,ab,ab,ab,ab,ab,ab,ab,ab,ab,ab,ab,ab,ab,ab,ac] rfl rfl aM (by decide) (fun K hK=>?_)
   refine L8 (w1:=?_) (v:=?_) (by rfl) rfl ?_ ?_
   rotate_left 2
   ·go_simp
    constructor
    ·rfl
    ·rfl
   refine hK.out _ _ ⟨((ah (af m5 (.cells #[U Z 0,U Z 0,U Z 0,U Z 0] 31)) 0).trans rfl),((ah (af m14 (.cells #[U Z 0,U Z 0,U Z 0,U Z 0] 31)) 0).trans rfl),((ah (af mT (.cells #[U Z 0,U Z 0,U Z 0,U Z 0] 31)) 8).trans rfl),((bA (Below.refl Wx.heap.size Wx) (.cells #[U Z 0,U Z 0,U Z 0,U Z 0] 31)).cell (World.block_lt_of_cell? Wx _ hy0)).trans hy0,((bA (Below.refl Wx.heap.size Wx) (.cells #[U Z 0,U Z 0,U Z 0,U Z 0] 31)).cell (World.block_lt_of_cell? Wx _ hy1)).trans hy1,((bA (Below.refl Wx.heap.size Wx) (.cells #[U Z 0,U Z 0,U Z 0,U Z 0] 31)).cell (World.block_lt_of_cell? Wx _ hy2)).trans hy2,((bA (Below.refl Wx.heap.size Wx) (.cells #[U Z 0,U Z 0,U Z 0,U Z 0] 31)).cell (World.block_lt_of_cell? Wx _ hy3)).trans hy3⟩ (fun hHeld=>?_)
   clear hK K
   refine dM ajW ?_
   refine TI (i:=24) (N:=none) #[ab,ab,ab,ab,ab,ab,ab,ab,ab,ab,ab,ab,ab,ab,ab,ab,ab,ab,ab,ab,ab,ab,ab,ab,ab] rfl rfl aM (by decide) (fun K hK=>?_)
   have QZ:=gT Wx (.cells #[U Z 0,U Z 0,U Z 0,U Z 0] 31)
   have U5:=bf QZ 0
   have U6:=bf QZ 1
   have ap6:=bf QZ 2
   have ap7:=bf QZ 3
   have Q0:=(ah QZ 0).trans rfl
   have U7:=(ah QZ 1).trans rfl
   have ap8:=(ah QZ 2).trans rfl
   have ap9:=(ah QZ 3).trans rfl
   refine ve (w1:=?_) (by rfl) rfl ?_ ?_
   rotate_left
   ·go_simp
    rfl
   refine hK.out _ _ ?_
   clear hK K
   refine jS aM ?_
   try clear hHeld
   skip
   clear hy0 hy1 hy2 hy3 wR
   have aaJ:w.heap.size≤Wx.heap.size:=mB.size
   have MU:W0.heap.size≤Wx.heap.size:=Nat.le_trans hXs hN.size
   replace hM:=hM.below (bA (Below.refl _ Wx) (.cells #[U Z y.f0.f0,U Z y.f0.f1,U Z y.f1.f0,U Z y.f1.f1] 31))
   replace hN:=dY hN (bA (Below.refl _ Wx) (.cells #[U Z y.f0.f0,U Z y.f0.f1,U Z y.f1.f0,U Z y.f1.f1] 31))
   have Jg:=eG mT
   have O6:=eG m5
   have WW:=eG m6
   have TU:=eG m10
   have alP:=eG m12
   have aBu:=eG m14
   have m16:jh (Wx.alloc (.cells #[U Z y.f0.f0,U Z y.f0.f1,U Z y.f1.f0,U Z y.f1.f1] 31)) (Wx.heap.size) #[U Z y.f0.f0,U Z y.f0.f1,U Z y.f1.f0,U Z y.f1.f1] 31:=(by have h_:=gT Wx (.cells #[U Z y.f0.f0,U Z y.f0.f1,U Z y.f1.f0,U Z y.f1.f1] 31);first|exact h_|(simp only [World.size_alloc] at h_;exact h_))
   replace mT:jh (Wx.alloc (.cells #[U Z y.f0.f0,U Z y.f0.f1,U Z y.f1.f0,U Z y.f1.f1] 31)) b #[U Z s.nx,U Z s.ny,U Z s.cell,U Z s.slot,U Z s.slots,U Z s.layers,U Z s.most,.slice A7 s.shores.length c7,.slice (some ad) s.currents.length c8,U Z v.speed,U Z v.dive,U Z v.use.f0,U Z v.use.f1,U Z v.drift.f0,U Z v.drift.f1,U Z v.reserve] 110:=(af mT _)
   replace m5:jh (Wx.alloc (.cells #[U Z y.f0.f0,U Z y.f0.f1,U Z y.f1.f0,U Z y.f1.f1] 31)) g5 #[.pointer (some ⟨b,0,none⟩)] 104:=(af m5 _)
   replace m6:jh (Wx.alloc (.cells #[U Z y.f0.f0,U Z y.f0.f1,U Z y.f1.f0,U Z y.f1.f1] 31)) g6 #[U Z x.f0.f0,U Z x.f0.f1,U Z x.f1.f0,U Z x.f1.f1] 31:=(af m6 _)
   replace m10:jh (Wx.alloc (.cells #[U Z y.f0.f0,U Z y.f0.f1,U Z y.f1.f0,U Z y.f1.f1] 31)) g10 #[U Z (mh L).f0.f0,U Z (mh L).f0.f1,U Z (mh L).f1.f0,U Z (mh L).f1.f1] 31:=(af m10 _)
   replace m12:jh (Wx.alloc (.cells #[U Z y.f0.f0,U Z y.f0.f1,U Z y.f1.f0,U Z y.f1.f1] 31)) g12 #[.bool (wU L).isNone] 4:=(af m12 _)
   replace m14:jh (Wx.alloc (.cells #[U Z y.f0.f0,U Z y.f0.f1,U Z y.f1.f0,U Z y.f1.f1] 31)) g14 #[U Z R] 3:=(af m14 _)
   replace mB:Below w.heap.size w (Wx.alloc (.cells #[U Z y.f0.f0,U Z y.f0.f1,U Z y.f1.f0,U Z y.f1.f1] 31)):=(bA mB _)
   have oI:w.heap.size≤Wx.heap.size:=aaJ
   generalize yX:(Wx.alloc (.cells #[U Z y.f0.f0,U Z y.f0.f1,U Z y.f1.f0,U Z y.f1.f1] 31)) = W3 at mT m5 m6 m10 m12 m14 m16 mB hM hN ⊢
   clear yX
   generalize aWt:Wx.heap.size = g16 at m16 MU ⊢
   have aft:b≠g16:=by omega
   have BZ:g5≠g16:=by omega
   have Ca:g6≠g16:=by omega
   have mi:g10≠g16:=by omega
   have xA:g12≠g16:=by omega
   have xB:g14≠g16:=by omega
   have aqa:g16≠b:=aft.symm
   have aqb:g16≠g5:=BZ.symm
   have aqc:g16≠g6:=Ca.symm
   have aBv:g16≠g10:=mi.symm
   have aBw:g16≠g12:=xA.symm
   have alX:g16≠g14:=xB.symm
   have aaZ:w.heap.size≤g16:=by omega
   clear oI Jg O6 WW TU alP aBu
   try clear aWt
   have LA:w.heap.size≤W3.heap.size:=mB.size
   have hNS:=HN.out
   obtain ⟨_,_,_,_,_,_,mO,lu,_⟩:=hNS
   have HN2:Hid (g5≠g16∧g6≠g16∧g14≠g16):=Lib.hid ⟨BZ,Ca,xB⟩
   try clear aft aqa
   try clear BZ aqb
   try clear Ca aqc
   try clear xB alX
   have hd_:1≤6 - 1 - 1:=by decide
   have hmx:Try.prog.follows .mixedOrders = true:=by kernel_rfl
   cases hO:wU L with
   |none =>
    rw [hO] at m12
    have HO:=Lib.hid hO
    clear hO
    obtain ⟨alY,alZ,al0,al1⟩:=xy m16
    obtain ⟨MO,MP,MQ,MR⟩:=xy m10
    have al2:=(ah m12 0).trans rfl
    obtain ⟨aaT,aaU,aaV,aaW⟩:=aqd m10
    have aBx:=bf m12 0
    skip
    gi_wp2
    clear mO lu
    obtain ⟨pU,GU,pV,qx,rP,FB,mO,lu,vS,vT,JH,JI⟩:=HN.out
    obtain ⟨BZ,Ca,xB⟩:=HN2.out
    have hE:yZ s layer j c.1 = ⟨y.f0,y.f1⟩:=HY.out
    have hmap:kg s x layer j0 q++List.map (fun c=>yZ s layer j c.1) (pre++[c]) = L++[(⟨y.f0,y.f1⟩:jf)]:=by rw [List.map_append,List.map_singleton,← List.append_assoc,hLL.out,hE]
    refine ⟨(I1 hN).trans ((((((KeepsOthers.setCell _ _ _).trans (KeepsOthers.setCell _ _ _)).trans (KeepsOthers.setCell _ _ _)).trans (KeepsOthers.setCell _ _ _)).trans (KeepsOthers.setCell _ _ _)).from _),(LB.set (p:=⟨g12,0,none⟩) (LB.set (p:=⟨g10,3,none⟩) (LB.set (p:=⟨g10,2,none⟩) (LB.set (p:=⟨g10,1,none⟩) (LB.set (p:=⟨g10,0,none⟩) (LB.below (Nat.le_trans VG hXs) hN) rA vS vT _) rA vS vT _) rA vS vT _) rA vS vT _) MN JH JI _),?_⟩
    dsimp only
    rw [hmap]
    unfold mh
    rw [TS HO.out]
    exact ⟨(aV (p:=⟨g12,0,none⟩) (aV (p:=⟨g10,3,none⟩) (aV (p:=⟨g10,2,none⟩) (aV (p:=⟨g10,1,none⟩) (aV (p:=⟨g10,0,none⟩) m5 pU _) pU _) pU _) pU _) GU _),(aV (p:=⟨g12,0,none⟩) (aV (p:=⟨g10,3,none⟩) (aV (p:=⟨g10,2,none⟩) (aV (p:=⟨g10,1,none⟩) (aV (p:=⟨g10,0,none⟩) m6 pV _) pV _) pV _) pV _) qx _),(aV (p:=⟨g12,0,none⟩) (aV (p:=⟨g10,3,none⟩) (aV (p:=⟨g10,2,none⟩) (aV (p:=⟨g10,1,none⟩) (aV (p:=⟨g10,0,none⟩) m14 rP _) rP _) rP _) rP _) FB _),(aV (p:=⟨g12,0,none⟩) (aN (aN (aN (aN m10 0 (U Z y.f0.f0) rfl) 1 (U Z y.f0.f1) rfl) 2 (U Z y.f1.f0) rfl) 3 (U Z y.f1.f1) rfl) mO _),(aN (aV (p:=⟨g10,3,none⟩) (aV (p:=⟨g10,2,none⟩) (aV (p:=⟨g10,1,none⟩) (aV (p:=⟨g10,0,none⟩) m12 lu _) lu _) lu _) lu _) 0 (.bool false) rfl),(Marks.set (Marks.set (Marks.set (Marks.set (Marks.set hM m10 (i:=0) _) (aN m10 0 (U Z y.f0.f0) rfl) (i:=1) _) (aN (aN m10 0 (U Z y.f0.f0) rfl) 1 (U Z y.f0.f1) rfl) (i:=2) _) (aN (aN (aN m10 0 (U Z y.f0.f0) rfl) 1 (U Z y.f0.f1) rfl) 2 (U Z y.f1.f0) rfl) (i:=3) _) (aV (p:=⟨g10,3,none⟩) (aV (p:=⟨g10,2,none⟩) (aV (p:=⟨g10,1,none⟩) (aV (p:=⟨g10,0,none⟩) m12 lu _) lu _) lu _) lu _) (i:=0) _),(Below.setCell (p:=⟨g12,0,none⟩) (Below.setCell (p:=⟨g10,3,none⟩) (Below.setCell (p:=⟨g10,2,none⟩) (Below.setCell (p:=⟨g10,1,none⟩) (Below.setCell (p:=⟨g10,0,none⟩) mB rA _) rA _) rA _) rA _) MN _)⟩
   |some z =>
    have hz_:mh L = z:=by unfold mh;rw [hO];rfl
    rw [hO] at m12
    rw [hz_] at m10
    have HO:=Lib.hid hO
    clear hO hz_
    obtain ⟨alY,alZ,al0,al1⟩:=xy m16
    obtain ⟨MO,MP,MQ,MR⟩:=xy m10
    have al2:=(ah m12 0).trans rfl
    gi_wp2_with fail
    clear alY alZ al0 al1 MO MP MQ MR al2
    have hcon:=alO z ⟨y.f0,y.f1⟩ W3
    refine ⟨trivial,(CallsIn.inRound l (callsIn_wide.2 hcon)).mono ?_⟩
    clear hcon
    rintro e W4 ⟨rfl,hb⟩
    generalize hH:BO z ⟨y.f0,y.f1⟩ = h_ at*
    have HH:=Lib.hid hH
    clear hH
    replace hM:=hM.below hb
    replace hN:=dY hN hb
    replace mT:=aU mT hb
    replace m5:=aU m5 hb
    replace m6:=aU m6 hb
    replace m10:=aU m10 hb
    replace m12:=aU m12 hb
    replace m14:=aU m14 hb
    replace m16:=aU m16 hb
    replace mB:=dY mB hb
    clear hb
    have aaI:w.heap.size≤W4.heap.size:=mB.size
    obtain ⟨alY,alZ,al0,al1⟩:=xy m16
    obtain ⟨MO,MP,MQ,MR⟩:=xy m10
    have al2:=(ah m12 0).trans rfl
    obtain ⟨a1y,a1z,a1A,a1B⟩:=aqd m16
    obtain ⟨aaT,aaU,aaV,aaW⟩:=aqd m10
    have aBx:=bf m12 0
    skip
    gi_wp2
    clear mO lu
    obtain ⟨pU,GU,pV,qx,rP,FB,mO,lu,vS,vT,JH,JI⟩:=HN.out
    obtain ⟨BZ,Ca,xB⟩:=HN2.out
    have hE:yZ s layer j c.1 = ⟨y.f0,y.f1⟩:=HY.out
    have hmap:kg s x layer j0 q++List.map (fun c=>yZ s layer j c.1) (pre++[c]) = L++[(⟨y.f0,y.f1⟩:jf)]:=by rw [List.map_append,List.map_singleton,← List.append_assoc,hLL.out,hE]
    refine ⟨(I1 hN).trans ((((((((((KeepsOthers.setCell _ _ _).trans (KeepsOthers.setCell _ _ _)).trans (KeepsOthers.setCell _ _ _)).trans (KeepsOthers.setCell _ _ _)).trans (KeepsOthers.setCell _ _ _)).trans (KeepsOthers.setCell _ _ _)).trans (KeepsOthers.setCell _ _ _)).trans (KeepsOthers.setCell _ _ _)).trans (KeepsOthers.setCell _ _ _)).from _),(LB.set (p:=⟨g12,0,none⟩) (LB.set (p:=⟨g10,3,none⟩) (LB.set (p:=⟨g10,2,none⟩) (LB.set (p:=⟨g10,1,none⟩) (LB.set (p:=⟨g10,0,none⟩) (LB.set (p:=⟨g16,3,none⟩) (LB.set (p:=⟨g16,2,none⟩) (LB.set (p:=⟨g16,1,none⟩) (LB.set (p:=⟨g16,0,none⟩) (LB.below (Nat.le_trans VG hXs) hN) aaZ (Nat.ne_of_lt (Nat.lt_of_lt_of_le (eG mP) MU)) (Nat.ne_of_lt (Nat.lt_of_lt_of_le (eG mX) MU)) _) aaZ (Nat.ne_of_lt (Nat.lt_of_lt_of_le (eG mP) MU)) (Nat.ne_of_lt (Nat.lt_of_lt_of_le (eG mX) MU)) _) aaZ (Nat.ne_of_lt (Nat.lt_of_lt_of_le (eG mP) MU)) (Nat.ne_of_lt (Nat.lt_of_lt_of_le (eG mX) MU)) _) aaZ (Nat.ne_of_lt (Nat.lt_of_lt_of_le (eG mP) MU)) (Nat.ne_of_lt (Nat.lt_of_lt_of_le (eG mX) MU)) _) rA vS vT _) rA vS vT _) rA vS vT _) rA vS vT _) MN JH JI _),?_⟩
    dsimp only
    rw [hmap]
    unfold mh
    rw [TT HO.out]
    rw [HH.out]
    exact ⟨(aV (p:=⟨g12,0,none⟩) (aV (p:=⟨g10,3,none⟩) (aV (p:=⟨g10,2,none⟩) (aV (p:=⟨g10,1,none⟩) (aV (p:=⟨g10,0,none⟩) (aV (p:=⟨g16,3,none⟩) (aV (p:=⟨g16,2,none⟩) (aV (p:=⟨g16,1,none⟩) (aV (p:=⟨g16,0,none⟩) m5 BZ _) BZ _) BZ _) BZ _) pU _) pU _) pU _) pU _) GU _),(aV (p:=⟨g12,0,none⟩) (aV (p:=⟨g10,3,none⟩) (aV (p:=⟨g10,2,none⟩) (aV (p:=⟨g10,1,none⟩) (aV (p:=⟨g10,0,none⟩) (aV (p:=⟨g16,3,none⟩) (aV (p:=⟨g16,2,none⟩) (aV (p:=⟨g16,1,none⟩) (aV (p:=⟨g16,0,none⟩) m6 Ca _) Ca _) Ca _) Ca _) pV _) pV _) pV _) pV _) qx _),(aV (p:=⟨g12,0,none⟩) (aV (p:=⟨g10,3,none⟩) (aV (p:=⟨g10,2,none⟩) (aV (p:=⟨g10,1,none⟩) (aV (p:=⟨g10,0,none⟩) (aV (p:=⟨g16,3,none⟩) (aV (p:=⟨g16,2,none⟩) (aV (p:=⟨g16,1,none⟩) (aV (p:=⟨g16,0,none⟩) m14 xB _) xB _) xB _) xB _) rP _) rP _) rP _) rP _) FB _),(aV (p:=⟨g12,0,none⟩) (aN (aN (aN (aN (aV (p:=⟨g16,3,none⟩) (aV (p:=⟨g16,2,none⟩) (aV (p:=⟨g16,1,none⟩) (aV (p:=⟨g16,0,none⟩) m10 mi _) mi _) mi _) mi _) 0 (U Z h_.f0.f0) rfl) 1 (U Z h_.f0.f1) rfl) 2 (U Z h_.f1.f0) rfl) 3 (U Z h_.f1.f1) rfl) mO _),(aN (aV (p:=⟨g10,3,none⟩) (aV (p:=⟨g10,2,none⟩) (aV (p:=⟨g10,1,none⟩) (aV (p:=⟨g10,0,none⟩) (aV (p:=⟨g16,3,none⟩) (aV (p:=⟨g16,2,none⟩) (aV (p:=⟨g16,1,none⟩) (aV (p:=⟨g16,0,none⟩) m12 xA _) xA _) xA _) xA _) lu _) lu _) lu _) lu _) 0 (.bool false) rfl),(Marks.set (Marks.set (Marks.set (Marks.set (Marks.set (Marks.set (Marks.set (Marks.set (Marks.set hM m16 (i:=0) _) (aN m16 0 (U Z h_.f0.f0) rfl) (i:=1) _) (aN (aN m16 0 (U Z h_.f0.f0) rfl) 1 (U Z h_.f0.f1) rfl) (i:=2) _) (aN (aN (aN m16 0 (U Z h_.f0.f0) rfl) 1 (U Z h_.f0.f1) rfl) 2 (U Z h_.f1.f0) rfl) (i:=3) _) (aV (p:=⟨g16,3,none⟩) (aV (p:=⟨g16,2,none⟩) (aV (p:=⟨g16,1,none⟩) (aV (p:=⟨g16,0,none⟩) m10 mi _) mi _) mi _) mi _) (i:=0) _) (aN (aV (p:=⟨g16,3,none⟩) (aV (p:=⟨g16,2,none⟩) (aV (p:=⟨g16,1,none⟩) (aV (p:=⟨g16,0,none⟩) m10 mi _) mi _) mi _) mi _) 0 (U Z h_.f0.f0) rfl) (i:=1) _) (aN (aN (aV (p:=⟨g16,3,none⟩) (aV (p:=⟨g16,2,none⟩) (aV (p:=⟨g16,1,none⟩) (aV (p:=⟨g16,0,none⟩) m10 mi _) mi _) mi _) mi _) 0 (U Z h_.f0.f0) rfl) 1 (U Z h_.f0.f1) rfl) (i:=2) _) (aN (aN (aN (aV (p:=⟨g16,3,none⟩) (aV (p:=⟨g16,2,none⟩) (aV (p:=⟨g16,1,none⟩) (aV (p:=⟨g16,0,none⟩) m10 mi _) mi _) mi _) mi _) 0 (U Z h_.f0.f0) rfl) 1 (U Z h_.f0.f1) rfl) 2 (U Z h_.f1.f0) rfl) (i:=3) _) (aV (p:=⟨g10,3,none⟩) (aV (p:=⟨g10,2,none⟩) (aV (p:=⟨g10,1,none⟩) (aV (p:=⟨g10,0,none⟩) (aV (p:=⟨g16,3,none⟩) (aV (p:=⟨g16,2,none⟩) (aV (p:=⟨g16,1,none⟩) (aV (p:=⟨g16,0,none⟩) m12 xA _) xA _) xA _) xA _) lu _) lu _) lu _) lu _) (i:=0) _),(Below.setCell (p:=⟨g12,0,none⟩) (Below.setCell (p:=⟨g10,3,none⟩) (Below.setCell (p:=⟨g10,2,none⟩) (Below.setCell (p:=⟨g10,1,none⟩) (Below.setCell (p:=⟨g10,0,none⟩) (Below.setCell (p:=⟨g16,3,none⟩) (Below.setCell (p:=⟨g16,2,none⟩) (Below.setCell (p:=⟨g16,1,none⟩) (Below.setCell (p:=⟨g16,0,none⟩) mB aaZ _) aaZ _) aaZ _) aaZ _) rA _) rA _) rA _) rA _) MN _)⟩
end Go.Proofs.Ytmhaiihjfgfaoaa.Gl
end
