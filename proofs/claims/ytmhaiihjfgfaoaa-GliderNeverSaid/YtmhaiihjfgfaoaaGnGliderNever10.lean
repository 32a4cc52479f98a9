import Derived.Test.YtmhaiihjfgfaoaaGnGliderNever3
import Derived.Test.YtmhaiihjfgfaoaaGnGliderNever9
open Go.Value renaming int → Z
open Go.IntKind renaming i64 → ab
open Bool renaming true → ac, false → al
section
namespace Go.Proofs.Ytmhaiihjfgfaoaa.Gl
open Go.RowKit Go.Shelf Go.Proofs.YtmhaiihjfgfaoaaW.PrintWords Go.Proofs.YtmhaiihjfgfaoaaW.PrintLast Go.Proofs.YtmhaiihjfgfaoaaW.PrintMore Go.Proofs.Ytmhaiihjfgfaoaa.Pr Go.Proofs.YtmhaiihjfgfaoaaW.Round
set_option linter.unusedVariables false
set_option linter.unusedSimpArgs false
attribute [local go_sem] dw dx dM dN dz
attribute [local go_sem] Oper.semAt_some
theorem aZ.qm {W W1:World} {b:Nat} {c:Array Value} {t:TypeId} (h:W.heap[b]? = some (.cells c t (0,0))) (hb:Below W.heap.size W W1):aZ W1 b c t:=(hb.block b (Array.getElem?_eq_some_iff.1 h).1).trans h
theorem eO {B b:Nat} {c:Array Value} {t:TypeId} {X Y:World} {row:Option Nat} (hs:aZ X b c t) (hg:X.grownBy Y row) (hr:∀ r,row = some r→B≤r∧∃ o:Obj,X.heap[r]? = some o∧o.isCells = false):aZ Y b c t :=
 (hg.block b (Array.getElem?_eq_some_iff.1 hs).1 (fun e=>by obtain ⟨_,o,ho,hc⟩:=hr b e.symm;rw [show X.heap[b]? = _ from hs] at ho;cases ho;cases hc)).trans hs
theorem eD {B:Nat} {W W1:World} (hb:Below W.heap.size W W1):KeepsFrom B W W1 :=
 ⟨hb.size,fun k o _ h0 _=>(hb.block k (Array.getElem?_eq_some_iff.1 h0).1).trans h0⟩
theorem dV {β:Type} (B b:Nat) (f:β→Array Value) (t:TypeId):OwnFrom B (fun s W=>aZ W b (f s) t):=fun s X Y row hs hg hr=>eO hs hg hr
theorem ownFrom_pure {β:Type} (B:Nat) (f:β→Prop):OwnFrom B (fun s (_:World)=>f s):=fun s X Y row hs hg hr=>hs
theorem Py {P:Program} {fn:Func} {p:Tmp} {ty:TypeId} {k:IntKind} (h:fn.results = #[.cell p ty]) (tmps:Array Value) (w:World) (g:Nat) (t:TypeId) (v:Value) (hp:tmps.getD p undef = .pointer (some ⟨g,0,none⟩)) (hg:w.heap[g]? = some (.cells #[v] t (0,0))) (hu:P.underlying ty = some (.int k)):
 (results fn tmps).run P w = .ok v w:=by
 have hp':tmps[p]?.getD undef = .pointer (some ⟨g,0,none⟩):=by simpa using hp
 have hc:w.cell? ⟨g,0,none⟩ = some v:=(ae hg 0).trans rfl
 have hb:(loadVar ty ⟨g,0,none⟩).run P w = .ok v w:=by
  have ha:(isAgg ty).run P w = .ok false w:=by
   unfold isAgg
   rw [Sem.run_bind,run_underlying hu w]
   rfl
  unfold loadVar
  rw [Sem.run_bind,ha]
  go_simp
 simp [results,h,hp',asAddr,hb]
def BX (s:fT) (x:cZ):Int:=if (pg s x).any (fun c=>Te false s.shores c) then 21 else 0
theorem akx {s:fT} {x:cZ} {xs:List (yl s)} (h:agF s x xs) (hf:∀ c ∈ xs,Te false s.shores c.1 = false):BX s x = 0:=by
 unfold BX
 rw [← show xs.map Subtype.val = pg s x from h,if_neg]
 rw [List.any_map,List.any_eq_true]
 rintro ⟨c,hc,h1⟩
 have h2:=hf c hc
 rw [show Te false s.shores c.1 = true from h1] at h2
 cases h2
theorem agG {s:fT} {x:cZ} {ini:List (yl s)} {last:yl s} (h:aky s x (ini++[last])) (hl:Te false s.shores last.1 = true):BX s x = 21:=by
 unfold BX
 obtain ⟨t,ht⟩:=h
 rw [← ht,if_pos]
 rw [List.map_append,List.any_append,List.any_append]
 simp [hl]
set_option maxRecDepth 100000 in
set_option maxHeartbeats 4000000 in
theorem agH (b:Nat) (s:fT) (v:iw) (x:cZ) (w:World) (hT:dZ w b s v) (hS:Fg s) (hx:R6 s x) (hsh:(s.shores.length:Int) = s.nx*s.ny):
 Calls Try.prog 115 #[.pointer (some ⟨b,0,none⟩),.agg #[Z ab x.f0.f0,Z ab x.f0.f1,Z ab x.f1.f0,Z ab x.f1.f1]] w (oo (Z ab (BX s x)) w):=by
 have pG:=Try.underlying31
 have hxy:=jy (show 0≤s.nx by have:=hS.nx;omega) hS.nx.2 (show 0≤s.ny by have:=hS.ny;omega) hS.ny.2
 have HSH:=Lib.hid hsh
 clear hsh
 refine (callsIn_wide (n:=6)).1 ?_
 refine callsIn_of_wp_marks Try.func115 rfl trivial ?_ rfl
 simp only [Try.ntmps115,List.size_toArray,List.length_cons,List.length_nil,Nat.reduceAdd,Nat.reduceSub,Array.replicate_succ,Array.replicate_zero,List.push_toArray,List.append_toArray,List.nil_append,List.cons_append]
 gi_wp2_with fail
 refine ⟨trivial,(callsIn_wide.2 (K3 _ _ _)).mono ?_⟩
 rintro e W_ ⟨rfl,rfl⟩
 gi_wp2_with fail
 have m2:aZ (((((w.alloc (.cells #[.pointer (some ⟨b,0,none⟩)] 104)).alloc (.cells #[Z ab x.f0.f0,Z ab x.f0.f1,Z ab x.f1.f0,Z ab x.f1.f1] 31)).alloc (.cells #[Z ab 0] 36)).alloc (.cells #[.pointer (some ⟨b,0,none⟩)] 104)).alloc (.cells #[Z ab x.f0.f0,Z ab x.f0.f1,Z ab x.f1.f0,Z ab x.f1.f1] 31)) (w.heap.size) #[.pointer (some ⟨b,0,none⟩)] 104:=(aa (aa (aa (aa aoM _) _) _) _)
 have m3:aZ (((((w.alloc (.cells #[.pointer (some ⟨b,0,none⟩)] 104)).alloc (.cells #[Z ab x.f0.f0,Z ab x.f0.f1,Z ab x.f1.f0,Z ab x.f1.f1] 31)).alloc (.cells #[Z ab 0] 36)).alloc (.cells #[.pointer (some ⟨b,0,none⟩)] 104)).alloc (.cells #[Z ab x.f0.f0,Z ab x.f0.f1,Z ab x.f1.f0,Z ab x.f1.f1] 31)) (w.heap.size+1) #[Z ab x.f0.f0,Z ab x.f0.f1,Z ab x.f1.f0,Z ab x.f1.f1] 31:=(aa (aa (aa aoN _) _) _)
 have m4:aZ (((((w.alloc (.cells #[.pointer (some ⟨b,0,none⟩)] 104)).alloc (.cells #[Z ab x.f0.f0,Z ab x.f0.f1,Z ab x.f1.f0,Z ab x.f1.f1] 31)).alloc (.cells #[Z ab 0] 36)).alloc (.cells #[.pointer (some ⟨b,0,none⟩)] 104)).alloc (.cells #[Z ab x.f0.f0,Z ab x.f0.f1,Z ab x.f1.f0,Z ab x.f1.f1] 31)) (w.heap.size+1+1) #[Z ab 0] 36:=(aa (aa (by have h_:=bB ((w.alloc (.cells #[.pointer (some ⟨b,0,none⟩)] 104)).alloc (.cells #[Z ab x.f0.f0,Z ab x.f0.f1,Z ab x.f1.f0,Z ab x.f1.f1] 31)) (.cells #[Z ab 0] 36);first|exact h_|(simp only [World.size_alloc] at h_;exact h_)) _) _)
 have mP:aZ (((((w.alloc (.cells #[.pointer (some ⟨b,0,none⟩)] 104)).alloc (.cells #[Z ab x.f0.f0,Z ab x.f0.f1,Z ab x.f1.f0,Z ab x.f1.f1] 31)).alloc (.cells #[Z ab 0] 36)).alloc (.cells #[.pointer (some ⟨b,0,none⟩)] 104)).alloc (.cells #[Z ab x.f0.f0,Z ab x.f0.f1,Z ab x.f1.f0,Z ab x.f1.f1] 31)) (w.heap.size+1+1+1) #[.pointer (some ⟨b,0,none⟩)] 104:=(aa (by have h_:=bB (((w.alloc (.cells #[.pointer (some ⟨b,0,none⟩)] 104)).alloc (.cells #[Z ab x.f0.f0,Z ab x.f0.f1,Z ab x.f1.f0,Z ab x.f1.f1] 31)).alloc (.cells #[Z ab 0] 36)) (.cells #[.pointer (some ⟨b,0,none⟩)] 104);first|exact h_|(simp only [World.size_alloc] at h_;exact h_)) _)
 have mX:aZ (((((w.alloc (.cells #[.pointer (some ⟨b,0,none⟩)] 104)).alloc (.cells #[Z ab x.f0.f0,Z ab x.f0.f1,Z ab x.f1.f0,Z ab x.f1.f1] 31)).alloc (.cells #[Z ab 0] 36)).alloc (.cells #[.pointer (some ⟨b,0,none⟩)] 104)).alloc (.cells #[Z ab x.f0.f0,Z ab x.f0.f1,Z ab x.f1.f0,Z ab x.f1.f1] 31)) (w.heap.size+1+1+1+1) #[Z ab x.f0.f0,Z ab x.f0.f1,Z ab x.f1.f0,Z ab x.f1.f1] 31:=(by have h_:=bB ((((w.alloc (.cells #[.pointer (some ⟨b,0,none⟩)] 104)).alloc (.cells #[Z ab x.f0.f0,Z ab x.f0.f1,Z ab x.f1.f0,Z ab x.f1.f1] 31)).alloc (.cells #[Z ab 0] 36)).alloc (.cells #[.pointer (some ⟨b,0,none⟩)] 104)) (.cells #[Z ab x.f0.f0,Z ab x.f0.f1,Z ab x.f1.f0,Z ab x.f1.f1] 31);first|exact h_|(simp only [World.size_alloc] at h_;exact h_))
 have mB:Below w.heap.size w (((((w.alloc (.cells #[.pointer (some ⟨b,0,none⟩)] 104)).alloc (.cells #[Z ab x.f0.f0,Z ab x.f0.f1,Z ab x.f1.f0,Z ab x.f1.f1] 31)).alloc (.cells #[Z ab 0] 36)).alloc (.cells #[.pointer (some ⟨b,0,none⟩)] 104)).alloc (.cells #[Z ab x.f0.f0,Z ab x.f0.f1,Z ab x.f1.f0,Z ab x.f1.f1] 31)):=(ai (ai (ai (ai (ai (Below.refl w.heap.size w) _) _) _) _) _)
 have dU:w.heap.size≤w.heap.size:=Nat.le_refl _
 generalize jq:(((((w.alloc (.cells #[.pointer (some ⟨b,0,none⟩)] 104)).alloc (.cells #[Z ab x.f0.f0,Z ab x.f0.f1,Z ab x.f1.f0,Z ab x.f1.f1] 31)).alloc (.cells #[Z ab 0] 36)).alloc (.cells #[.pointer (some ⟨b,0,none⟩)] 104)).alloc (.cells #[Z ab x.f0.f0,Z ab x.f0.f1,Z ab x.f1.f0,Z ab x.f1.f1] 31)) = W0 at m2 m3 m4 mP mX mB ⊢
 clear jq
 generalize hg2:w.heap.size = g2 at m2 m3 m4 mP mX ⊢
 have hG2:w.heap.size≤g2:=by omega
 generalize hg3:g2+1 = g3 at m3 m4 mP mX ⊢
 have Fh:g2≠g3:=by omega
 have abn:g3≠g2:=Fh.symm
 have hG3:w.heap.size≤g3:=by omega
 generalize hg4:g3+1 = g4 at m4 mP mX ⊢
 have aoO:g2≠g4:=by omega
 have Pz:g3≠g4:=by omega
 have aBt:g4≠g2:=aoO.symm
 have aoP:g4≠g3:=Pz.symm
 have hG4:w.heap.size≤g4:=by omega
 generalize hgP:g4+1 = gP at mP mX ⊢
 have aoQ:g2≠gP:=by omega
 have aoR:g3≠gP:=by omega
 have Tf:g4≠gP:=by omega
 have aBu:gP≠g2:=aoQ.symm
 have aBv:gP≠g3:=aoR.symm
 have agI:gP≠g4:=Tf.symm
 have hGP:w.heap.size≤gP:=by omega
 generalize hgX:gP+1 = gX at mX ⊢
 have aoS:g2≠gX:=by omega
 have aoT:g3≠gX:=by omega
 have aoU:g4≠gX:=by omega
 have Tg:gP≠gX:=by omega
 have aBw:gX≠g2:=aoS.symm
 have aBx:gX≠g3:=aoT.symm
 have aBy:gX≠g4:=aoU.symm
 have agJ:gX≠gP:=Tg.symm
 have hGX:w.heap.size≤gX:=by omega
 clear dU
 try clear hgX
 try clear hgP
 try clear hg4
 try clear hg3
 try clear hg2
 have pI:w.heap.size≤W0.heap.size:=mB.size
 refine wpIn_rangeFunc_ownH rfl (by omega) (gf:=135) (lb:=#[.pointer (some ⟨gP,0,none⟩),.pointer (some ⟨gX,0,none⟩)]) rfl trivial (enters_of Try.func135 aT rfl)
  (encs:=fun c:yl s=>#[Z ab c.1]) (Kp:=Below W0.heap.size) (S:=agF s x) (Sp:=aky s x) (N:=(pg s x).length) (w0:=W0)
  (fun l J Jx W hW hJ _ hY h0=>K6 5 (by omega) l gP gX W0 b s v x (hT.below mB) hS hx (Below W0.heap.size) (fun A B h hE=>⟨hE.1.trans h,(h.block gP (aD mP)).trans hE.2.1,(h.block gX (aD mX)).trans hE.2.2⟩) J Jx hY (fun f X Y h hB=>hJ f X Y none h ⟨hB.os,hB.tape,hB.output,hB.size,fun k hk _=>hB.block k hk⟩ (fun r e=>by cases e)) W ⟨hW,aZ.qm mP hW,aZ.qm mX hW⟩ h0) belowK_t (belowK_b (by omega)) (Below.refl _ _) (fun _=>rfl)
  (fun pre W=>(∀ c ∈ pre,Te false s.shores c.1 = false)∧aZ W g2 #[.pointer (some ⟨b,0,none⟩)] 104∧aZ W g4 #[Z ab 0] 36∧Below w.heap.size w W)
  (fun c pre W=>∃ ini last,(c = .ret∧pre = ini++[last]∧Te false s.shores last.1 = true)∧aZ W g4 #[Z ab 21] 36∧Below w.heap.size w W)
  (OwnFrom.and (ownFrom_pure _ _) (OwnFrom.and (dV _ _ (fun _=>_) _) (OwnFrom.and (dV _ _ (fun _=>_) _) (ownFrom_below (by omega) (by omega)))))
  (fun c pre X Y row hs hg hr=>by
   obtain ⟨ini,last,h1,h2,h3⟩:=hs
   exact ⟨ini,last,h1,eO h2 hg hr,ownFrom_below (by omega) (by omega) () X Y row h3 hg hr⟩)
  ⟨by simp,m2,m4,mB⟩
  (fun c a' W=>a' = { tmps:=#[.pointer (some ⟨b,0,none⟩),.agg #[Z ab x.f0.f0,Z ab x.f0.f1,Z ab x.f1.f0,Z ab x.f1.f1],.pointer (some ⟨g2,0,none⟩),.pointer (some ⟨g3,0,none⟩),.pointer (some ⟨g4,0,none⟩),Z ab c.1,.pointer (some ⟨b,0,none⟩),.agg #[Z ab x.f0.f0,Z ab x.f0.f1,Z ab x.f1.f0,Z ab x.f1.f1],.func (.func 135) #[] #[.pointer (some ⟨gP,0,none⟩),.pointer (some ⟨gX,0,none⟩)],Z ab c.1,undef,undef,undef,undef,undef,undef,undef,undef],defers:=[] })
  (fun c a' s X Y row hs hg hr=>hs) ?assign ?body ?done ?stop
 case assign =>
  rintro l pre c W K hI hK
  gi_wp2
  exact hK _ _ ((KeepsOthers.refl W).from _) (Below.refl _ _) hI rfl
 case body =>
  rintro l pre c a' W hlW ⟨r,hr⟩ ⟨h0,h2,h4,hB⟩ rfl hlen
  have hT2:=hT.below hB
  obtain ⟨A7,c7,A8,c8,hBt,q1,q2,_⟩:=hT2
  have hlt:c.1 < (s.shores.length:Int):=by rw [HSH.out];exact c.2.2
  have hge:=c.2.1
  obtain ⟨ad,e_,hx_⟩:=Kd.akv q2 c.1 hge hlt
  cases e_
  have c2:=(ae h2 0).trans rfl
  have ct:=(ae hBt 7).trans rfl
  clear hBt q1 q2 hr
  cases hv:Te false s.shores c.1 with
  |false =>
   rw [hv] at hx_
   have HV:=Lib.hid hv
   clear hv
   gi_wp2
   exact ⟨(KeepsOthers.refl W).from _,Below.refl _ _,by
    intro p hp
    rcases List.mem_append.1 hp with hp|hp
    ·exact h0 p hp
    ·obtain rfl:=List.mem_singleton.1 hp
     exact HV.out,h2,h4,hB⟩
  |true =>
   rw [hv] at hx_
   have HV:=Lib.hid hv
   clear hv
   have c4:=(ae h4 0).trans rfl
   have f4:=aK h4 0
   gi_wp2
   exact ⟨(KeepsOthers.setCell _ _ _).from _,pre,c,⟨rfl,rfl,HV.out⟩,az h4 0 _ rfl,hB.setCell hG4 _⟩
 case done =>
  rintro D_ xs W hD hxs ⟨h0,h2,h4,hB⟩ hK
  have hE:=Lib.hid (akx hxs h0)
  clear h0
  have c4:=(ae h4 0).trans rfl
  have f4:=aK h4 0
  gi_wp2
  have hne:D_≠g4:=by have h_:=aD m4;omega
  refine ⟨by simp,.inl ⟨_,_,rfl,run_takeDeferred ((Below.heap_setCell _ _ _ D_ hne).trans hK),?_⟩⟩
  exact ⟨_,Py rfl _ _ g4 36 (Z ab 0) rfl ((World.putObj_heap_other (fun e=>hne e.symm)).trans (az h4 0 _ rfl)) Try.underlying36,by rw [hE.out],(hB.setCell hG4 _).trans (belowK_b (w:=w) (Nat.le_refl _) _ D_ _ _ (by have h_:=hB.size;omega) ((Below.heap_setCell _ _ _ D_ hne).trans hK) rfl rfl)⟩
 case stop =>
  rintro D_ c pre W hD hp ⟨ini,last,⟨rfl,rfl,h1⟩,h4,hB⟩ hK
  have hE:=Lib.hid (agG hp h1)
  gi_wp2
  have hne:D_≠g4:=by have h_:=aD m4;omega
  refine ⟨by simp,.inl ⟨_,_,rfl,run_takeDeferred hK,?_⟩⟩
  exact ⟨_,Py rfl _ _ g4 36 (Z ab 21) rfl ((World.putObj_heap_other (fun e=>hne e.symm)).trans h4) Try.underlying36,by rw [hE.out],hB.trans (belowK_b (w:=w) (Nat.le_refl _) _ D_ _ _ (by omega) hK rfl rfl)⟩
end Go.Proofs.Ytmhaiihjfgfaoaa.Gl
end
section
namespace Go.Proofs.Ytmhaiihjfgfaoaa.Pr
open Go.RowKit Go.Proofs.YtmhaiihjfgfaoaaW.PrintWords Go.Proofs.YtmhaiihjfgfaoaaW.PrintLast Go.Proofs.YtmhaiihjfgfaoaaW.PrintMore
attribute [local go_sem] dw dx dM dN dz
set_option linter.unusedVariables false
set_option linter.unusedSimpArgs false
def vJ.f (ax:Int) (av:Int) (aH:Int) (aG:Int) (bq:Int) (bz:Int) (bY:Int) (bX:Int):Option (Int × Int × Int × Int):=some (mn ax bq,mx av bz,mn aH bY,mx aG bX)
set_option maxHeartbeats 8000000 in
set_option maxRecDepth 100000 in
theorem vJ.calls (ax:Int) (av:Int) (aH:Int) (aG:Int) (bq:Int) (bz:Int) (bY:Int) (bX:Int) (r1:Int) (r2:Int) (r3:Int) (r4:Int) (w:World) (h:vJ.f ax av aH aG bq bz bY bX = some (r1,r2,r3,r4)):
 Calls Try.prog 119 #[.agg #[Z ab ax,Z ab av,Z ab aH,Z ab aG],.agg #[Z ab bq,Z ab bz,Z ab bY,Z ab bX]] w fun e w'=>e = .returned (.agg #[Z ab r1,Z ab r2,Z ab r3,Z ab r4])∧Below w.heap.size w w':=by
 have pG:=Try.underlying31
 have mE:=Try.underlying27
 have HB:=ag.mk (Below.refl w.heap.size w)
 have H:(some (mn ax bq,mx av bz,mn aH bY,mx aG bX)) = some (r1,r2,r3,r4):=h
 clear h
 obtain ⟨ym,FU⟩:∃ j_:Int,(mn ax bq) = j_:=⟨_,rfl⟩
 replace H:(some (ym,mx av bz,mn aH bY,mx aG bX)) = some (r1,r2,r3,r4):=by first|(rw [FU] at H;exact H)|(simp only [FU] at H ⊢;exact H)
 have anv:(if bq < ax then bq else ax) = ym:=FU
 obtain ⟨R7,Ti⟩:∃ j_:Int,(mx av bz) = j_:=⟨_,rfl⟩
 replace H:(some (ym,R7,mn aH bY,mx aG bX)) = some (r1,r2,r3,r4):=by first|(rw [Ti] at H;exact H)|(simp only [Ti] at H ⊢;exact H)
 have aqN:(if av < bz then bz else av) = R7:=Ti
 obtain ⟨ji5,akz⟩:∃ j_:Int,(mn aH bY) = j_:=⟨_,rfl⟩
 replace H:(some (ym,R7,ji5,mx aG bX)) = some (r1,r2,r3,r4):=by first|(rw [akz] at H;exact H)|(simp only [akz] at H ⊢;exact H)
 have aFK:(if bY < aH then bY else aH) = ji5:=akz
 obtain ⟨ji6,akA⟩:∃ j_:Int,(mx aG bX) = j_:=⟨_,rfl⟩
 replace H:(some (ym,R7,ji5,ji6)) = some (r1,r2,r3,r4):=by first|(rw [akA] at H;exact H)|(simp only [akA] at H ⊢;exact H)
 have aFL:(if aG < bX then bX else aG) = ji6:=akA
 simp only [Option.some.injEq,Prod.mk.injEq] at H
 obtain ⟨rfl,rfl,rfl,rfl⟩:=H
 go_enter Try.func119,Try.ntmps119
 go_wp2_with (first|((with_reducible refine aI (N:=2) rfl ?_);refine aC (by rfl) (N:=2) (by rfl) (cs:=#[Z ab ax,Z ab av,Z ab aH,Z ab aG]) (t:=31) gu ?_;intro aFM hg w7 hbox hb;have FV:=ag.mk (hbox);have aFN:=cB HB hg;have aFO:=cB HB hg;replace HB:=cK HB hb;clear hb hbox hg)|((with_reducible refine aI (N:=3) rfl ?_);refine aC (by rfl) (N:=3) (by rfl) (cs:=#[Z ab bq,Z ab bz,Z ab bY,Z ab bX]) (t:=31) gu ?_;intro aFP hg w8 hbox hb;have X9:=ag.mk (hbox);have aFQ:=cB HB hg;have aFR:=cB HB hg;have afI:=l6 FV hg;have afJ:=l9 FV hg;replace FV:=bJ FV hb;replace HB:=cK HB hb;clear hb hbox hg)|((with_reducible refine aI (N:=4) rfl ?_);refine aC (by rfl) (N:=4) (by rfl) (cs:=#[Z ab 0,Z ab 0,Z ab 0,Z ab 0]) (t:=31) gu ?_;intro aqP hg w9 hbox hb;have anw:=ag.mk (hbox);have aFS:=cB HB hg;have aFT:=cB HB hg;have afK:=l6 FV hg;have afL:=l9 FV hg;have afM:=l6 X9 hg;have afN:=l9 X9 hg;replace FV:=bJ FV hb;replace X9:=bJ X9 hb;replace HB:=cK HB hb;clear hb hbox hg;have ac9:=afI.out;have ada:=afJ.out;have agK:=afK.out;have agL:=afL.out;obtain ⟨vK,vL,adb,ade,vM,vN,adf,adg⟩:=jr FV.out;have aqQ:=afM.out;have aqR:=afN.out;obtain ⟨Dk,Dl,Tj,Tk,Dm,Dn,Tm,Tn⟩:=jr X9.out;obtain ⟨uA,uB,zy,zz,uC,uD,zA,zB⟩:=jr anw.out))
 refine bodyPost_ret (results_cell_row rfl _ _ aqP 31 #[Z ab ym,Z ab R7,Z ab ji5,Z ab ji6] (0,0) _ rfl (by (with_reducible repeat (first|refine aA ?_ _|refine au ?_|refine aa ?_ _));refine az (cs:=#[Z ab ym,Z ab R7,Z ab ji5,Z ab 0]) ?_ 3 _ rfl;(with_reducible repeat (first|refine aA ?_ _|refine au ?_|refine aa ?_ _));refine az (cs:=#[Z ab ym,Z ab R7,Z ab 0,Z ab 0]) ?_ 2 _ rfl;(with_reducible repeat (first|refine aA ?_ _|refine au ?_|refine aa ?_ _));refine az (cs:=#[Z ab ym,Z ab 0,Z ab 0,Z ab 0]) ?_ 1 _ rfl;(with_reducible repeat (first|refine aA ?_ _|refine au ?_|refine aa ?_ _));refine az (cs:=#[Z ab 0,Z ab 0,Z ab 0,Z ab 0]) ?_ 0 _ rfl;(with_reducible repeat (first|refine aA ?_ _|refine au ?_|refine aa ?_ _));exact anw.out) Try.underlying31 rfl aT) rfl ?_
 exact ⟨by first|rfl|(simp [ic,ig] <;> rfl)|(simp only [← FU,← Ti,← akz,← akA];first|rfl|(simp [ic,ig] <;> rfl))|(simp [*,ic,ig] <;> rfl),eZ⟩
end Go.Proofs.Ytmhaiihjfgfaoaa.Pr
end
