import Derived.Test.YtmhaiihjfgfaoaaGhGliderHolds3
import Derived.Test.YtmhaiihjfgfaoaaGhGliderHolds9
section
namespace Go.Proofs.Ytmhaiihjfgfaoaa.Gl
open Go.RowKit Go.Shelf Go.Proofs.YtmhaiihjfgfaoaaW.PrintWords Go.Proofs.YtmhaiihjfgfaoaaW.PrintLast Go.Proofs.YtmhaiihjfgfaoaaW.PrintMore Go.Proofs.Ytmhaiihjfgfaoaa.Pr Go.Proofs.YtmhaiihjfgfaoaaW.Round
set_option linter.unusedVariables false
set_option linter.unusedSimpArgs false
attribute [local go_sem] cz cB dK dL cK
attribute [local go_sem] Oper.semAt_some
theorem iD.KN {W W1:World} {b:Nat} {c:Array Value} {t:TypeId} (h:W.heap[b]? = some (.cells c t (0,0))) (hb:Below W.heap.size W W1):iD W1 b c t:=(hb.block b (Array.getElem?_eq_some_iff.1 h).1).trans h
theorem OI {B b:Nat} {c:Array Value} {t:TypeId} {X Y:World} {row:Option Nat} (hs:iD X b c t) (hg:X.grownBy Y row) (hr:∀ r,row = some r→B≤r∧∃ o:Obj,X.heap[r]? = some o∧o.isCells = false):iD Y b c t :=
 (hg.block b (Array.getElem?_eq_some_iff.1 hs).1 (fun e=>by obtain ⟨_,o,ho,hc⟩:=hr b e.symm;rw [show X.heap[b]? = _ from hs] at ho;cases ho;cases hc)).trans hs
theorem CX {B:Nat} {W W1:World} (hb:Below W.heap.size W W1):KeepsFrom B W W1 :=
 ⟨hb.size,fun k o _ h0 _=>(hb.block k (Array.getElem?_eq_some_iff.1 h0).1).trans h0⟩
theorem o9 {β:Type} (B b:Nat) (f:β→Array Value) (t:TypeId):OwnFrom B (fun s W=>iD W b (f s) t):=fun s X Y row hs hg hr=>OI hs hg hr
theorem ownFrom_pure {β:Type} (B:Nat) (f:β→Prop):OwnFrom B (fun s (_:World)=>f s):=fun s X Y row hs hg hr=>hs
theorem OJ {P:Program} {fn:Func} {p:Tmp} {ty:TypeId} {k:IntKind} (h:fn.results = #[.cell p ty]) (tmps:Array Value) (w:World) (g:Nat) (t:TypeId) (v:Value) (hp:tmps.getD p undef = .pointer (some ⟨g,0,none⟩)) (hg:w.heap[g]? = some (.cells #[v] t (0,0))) (hu:P.underlying ty = some (.int k)):
 (results fn tmps).run P w = .ok v w:=by
 have hp':tmps[p]?.getD undef = .pointer (some ⟨g,0,none⟩):=by simpa using hp
 have hc:w.cell? ⟨g,0,none⟩ = some v:=(aa hg 0).trans rfl
 have hb:(loadVar ty ⟨g,0,none⟩).run P w = .ok v w:=by
  have ha:(isAgg ty).run P w = .ok false w:=by
   unfold isAgg
   rw [Sem.run_bind,run_underlying hu w]
   rfl
  unfold loadVar
  rw [Sem.run_bind,ha]
  go_simp
 simp [results,h,hp',asAddr,hb]
def xY (s:lF) (x:gz):Int:=if (nW s x).any (fun c=>Bj false s.shores c) then 21 else 0
theorem afN {s:lF} {x:gz} {xs:List (zZ s)} (h:acY s x xs) (hf:∀ c ∈ xs,Bj false s.shores c.1 = false):xY s x = 0:=by
 unfold xY
 rw [← show xs.map Subtype.val = nW s x from h,if_neg]
 rw [List.any_map,List.any_eq_true]
 rintro ⟨c,hc,h1⟩
 have h2:=hf c hc
 rw [show Bj false s.shores c.1 = true from h1] at h2
 cases h2
theorem acZ {s:lF} {x:gz} {ini:List (zZ s)} {last:zZ s} (h:afO s x (ini++[last])) (hl:Bj false s.shores last.1 = true):xY s x = 21:=by
 unfold xY
 obtain ⟨t,ht⟩:=h
 rw [← ht,if_pos]
 rw [List.map_append,List.any_append,List.any_append]
 simp [hl]
set_option maxRecDepth 100000 in
set_option maxHeartbeats 4000000 in
theorem ac0 (b:Nat) (s:lF) (v:qO) (x:gz) (w:World) (hT:kZ w b s v) (hS:xz s) (hx:Qt s x) (hsh:(s.shores.length:Int) = s.nx*s.ny):
 Calls Try.prog 115 #[.pointer (some ⟨b,0,none⟩),.agg #[.int .i64 x.f0.f0,.int .i64 x.f0.f1,.int .i64 x.f1.f0,.int .i64 x.f1.f1]] w (xA (.int .i64 (xY s x)) w):=by
 have qP:=Try.underlying31
 have hxy:=fI (show 0≤s.nx by have:=hS.nx;omega) hS.nx.2 (show 0≤s.ny by have:=hS.ny;omega) hS.ny.2
 have HSH:=Lib.hid hsh
 clear hsh
 refine (callsIn_wide (n:=6)).1 ?_
 refine callsIn_of_wp_marks Try.func115 rfl trivial ?_ rfl
 simp only [Try.ntmps115,List.size_toArray,List.length_cons,List.length_nil,Nat.reduceAdd,Nat.reduceSub,Array.replicate_succ,Array.replicate_zero,List.push_toArray,List.append_toArray,List.nil_append,List.cons_append]
 gi_wp2_with fail
 refine ⟨trivial,(callsIn_wide.2 (LU _ _ _)).mono ?_⟩
 rintro e W_ ⟨rfl,rfl⟩
 gi_wp2_with fail
 have m2:iD (((((w.alloc (.cells #[.pointer (some ⟨b,0,none⟩)] 104)).alloc (.cells #[.int .i64 x.f0.f0,.int .i64 x.f0.f1,.int .i64 x.f1.f0,.int .i64 x.f1.f1] 31)).alloc (.cells #[.int .i64 0] 36)).alloc (.cells #[.pointer (some ⟨b,0,none⟩)] 104)).alloc (.cells #[.int .i64 x.f0.f0,.int .i64 x.f0.f1,.int .i64 x.f1.f0,.int .i64 x.f1.f1] 31)) (w.heap.size) #[.pointer (some ⟨b,0,none⟩)] 104:=(ag (ag (ag (ag aoE _) _) _) _)
 have m3:iD (((((w.alloc (.cells #[.pointer (some ⟨b,0,none⟩)] 104)).alloc (.cells #[.int .i64 x.f0.f0,.int .i64 x.f0.f1,.int .i64 x.f1.f0,.int .i64 x.f1.f1] 31)).alloc (.cells #[.int .i64 0] 36)).alloc (.cells #[.pointer (some ⟨b,0,none⟩)] 104)).alloc (.cells #[.int .i64 x.f0.f0,.int .i64 x.f0.f1,.int .i64 x.f1.f0,.int .i64 x.f1.f1] 31)) (w.heap.size+1) #[.int .i64 x.f0.f0,.int .i64 x.f0.f1,.int .i64 x.f1.f0,.int .i64 x.f1.f1] 31:=(ag (ag (ag aoF _) _) _)
 have m4:iD (((((w.alloc (.cells #[.pointer (some ⟨b,0,none⟩)] 104)).alloc (.cells #[.int .i64 x.f0.f0,.int .i64 x.f0.f1,.int .i64 x.f1.f0,.int .i64 x.f1.f1] 31)).alloc (.cells #[.int .i64 0] 36)).alloc (.cells #[.pointer (some ⟨b,0,none⟩)] 104)).alloc (.cells #[.int .i64 x.f0.f0,.int .i64 x.f0.f1,.int .i64 x.f1.f0,.int .i64 x.f1.f1] 31)) (w.heap.size+1+1) #[.int .i64 0] 36:=(ag (ag (by have h_:=fT ((w.alloc (.cells #[.pointer (some ⟨b,0,none⟩)] 104)).alloc (.cells #[.int .i64 x.f0.f0,.int .i64 x.f0.f1,.int .i64 x.f1.f0,.int .i64 x.f1.f1] 31)) (.cells #[.int .i64 0] 36);first|exact h_|(simp only [World.size_alloc] at h_;exact h_)) _) _)
 have mP:iD (((((w.alloc (.cells #[.pointer (some ⟨b,0,none⟩)] 104)).alloc (.cells #[.int .i64 x.f0.f0,.int .i64 x.f0.f1,.int .i64 x.f1.f0,.int .i64 x.f1.f1] 31)).alloc (.cells #[.int .i64 0] 36)).alloc (.cells #[.pointer (some ⟨b,0,none⟩)] 104)).alloc (.cells #[.int .i64 x.f0.f0,.int .i64 x.f0.f1,.int .i64 x.f1.f0,.int .i64 x.f1.f1] 31)) (w.heap.size+1+1+1) #[.pointer (some ⟨b,0,none⟩)] 104:=(ag (by have h_:=fT (((w.alloc (.cells #[.pointer (some ⟨b,0,none⟩)] 104)).alloc (.cells #[.int .i64 x.f0.f0,.int .i64 x.f0.f1,.int .i64 x.f1.f0,.int .i64 x.f1.f1] 31)).alloc (.cells #[.int .i64 0] 36)) (.cells #[.pointer (some ⟨b,0,none⟩)] 104);first|exact h_|(simp only [World.size_alloc] at h_;exact h_)) _)
 have mX:iD (((((w.alloc (.cells #[.pointer (some ⟨b,0,none⟩)] 104)).alloc (.cells #[.int .i64 x.f0.f0,.int .i64 x.f0.f1,.int .i64 x.f1.f0,.int .i64 x.f1.f1] 31)).alloc (.cells #[.int .i64 0] 36)).alloc (.cells #[.pointer (some ⟨b,0,none⟩)] 104)).alloc (.cells #[.int .i64 x.f0.f0,.int .i64 x.f0.f1,.int .i64 x.f1.f0,.int .i64 x.f1.f1] 31)) (w.heap.size+1+1+1+1) #[.int .i64 x.f0.f0,.int .i64 x.f0.f1,.int .i64 x.f1.f0,.int .i64 x.f1.f1] 31:=(by have h_:=fT ((((w.alloc (.cells #[.pointer (some ⟨b,0,none⟩)] 104)).alloc (.cells #[.int .i64 x.f0.f0,.int .i64 x.f0.f1,.int .i64 x.f1.f0,.int .i64 x.f1.f1] 31)).alloc (.cells #[.int .i64 0] 36)).alloc (.cells #[.pointer (some ⟨b,0,none⟩)] 104)) (.cells #[.int .i64 x.f0.f0,.int .i64 x.f0.f1,.int .i64 x.f1.f0,.int .i64 x.f1.f1] 31);first|exact h_|(simp only [World.size_alloc] at h_;exact h_))
 have mB:Below w.heap.size w (((((w.alloc (.cells #[.pointer (some ⟨b,0,none⟩)] 104)).alloc (.cells #[.int .i64 x.f0.f0,.int .i64 x.f0.f1,.int .i64 x.f1.f0,.int .i64 x.f1.f1] 31)).alloc (.cells #[.int .i64 0] 36)).alloc (.cells #[.pointer (some ⟨b,0,none⟩)] 104)).alloc (.cells #[.int .i64 x.f0.f0,.int .i64 x.f0.f1,.int .i64 x.f1.f0,.int .i64 x.f1.f1] 31)):=(aY (aY (aY (aY (aY (Below.refl w.heap.size w) _) _) _) _) _)
 have nK:w.heap.size≤w.heap.size:=Nat.le_refl _
 generalize xV:(((((w.alloc (.cells #[.pointer (some ⟨b,0,none⟩)] 104)).alloc (.cells #[.int .i64 x.f0.f0,.int .i64 x.f0.f1,.int .i64 x.f1.f0,.int .i64 x.f1.f1] 31)).alloc (.cells #[.int .i64 0] 36)).alloc (.cells #[.pointer (some ⟨b,0,none⟩)] 104)).alloc (.cells #[.int .i64 x.f0.f0,.int .i64 x.f0.f1,.int .i64 x.f1.f0,.int .i64 x.f1.f1] 31)) = W0 at m2 m3 m4 mP mX mB ⊢
 clear xV
 generalize hg2:w.heap.size = g2 at m2 m3 m4 mP mX ⊢
 have hG2:w.heap.size≤g2:=by omega
 generalize hg3:g2+1 = g3 at m3 m4 mP mX ⊢
 have WG:g2≠g3:=by omega
 have al4:g3≠g2:=WG.symm
 have hG3:w.heap.size≤g3:=by omega
 generalize hg4:g3+1 = g4 at m4 mP mX ⊢
 have al5:g2≠g4:=by omega
 have al6:g3≠g4:=by omega
 have aCn:g4≠g2:=al5.symm
 have aCo:g4≠g3:=al6.symm
 have hG4:w.heap.size≤g4:=by omega
 generalize hgP:g4+1 = gP at mP mX ⊢
 have al7:g2≠gP:=by omega
 have al8:g3≠gP:=by omega
 have al9:g4≠gP:=by omega
 have aCp:gP≠g2:=al7.symm
 have aCq:gP≠g3:=al8.symm
 have aCr:gP≠g4:=al9.symm
 have hGP:w.heap.size≤gP:=by omega
 generalize hgX:gP+1 = gX at mX ⊢
 have ama:g2≠gX:=by omega
 have amb:g3≠gX:=by omega
 have amc:g4≠gX:=by omega
 have Rb:gP≠gX:=by omega
 have aCs:gX≠g2:=ama.symm
 have aCt:gX≠g3:=amb.symm
 have aCu:gX≠g4:=amc.symm
 have ac1:gX≠gP:=Rb.symm
 have hGX:w.heap.size≤gX:=by omega
 clear nK
 try clear hgX
 try clear hgP
 try clear hg4
 try clear hg3
 try clear hg2
 have Qu:w.heap.size≤W0.heap.size:=mB.size
 refine wpIn_rangeFunc_ownH rfl (by omega) (gf:=135) (lb:=#[.pointer (some ⟨gP,0,none⟩),.pointer (some ⟨gX,0,none⟩)]) rfl trivial (enters_of Try.func135 aR rfl)
  (encs:=fun c:zZ s=>#[.int .i64 c.1]) (Kp:=Below W0.heap.size) (S:=acY s x) (Sp:=afO s x) (N:=(nW s x).length) (w0:=W0)
  (fun l J Jx W hW hJ _ hY h0=>LV 5 (by omega) l gP gX W0 b s v x (hT.below mB) hS hx (Below W0.heap.size) (fun A B h hE=>⟨hE.1.trans h,(h.block gP (dV mP)).trans hE.2.1,(h.block gX (dV mX)).trans hE.2.2⟩) J Jx hY (fun f X Y h hB=>hJ f X Y none h ⟨hB.os,hB.tape,hB.output,hB.size,fun k hk _=>hB.block k hk⟩ (fun r e=>by cases e)) W ⟨hW,iD.KN mP hW,iD.KN mX hW⟩ h0) belowK_t (belowK_b (by omega)) (Below.refl _ _) (fun _=>rfl)
  (fun pre W=>(∀ c ∈ pre,Bj false s.shores c.1 = false)∧iD W g2 #[.pointer (some ⟨b,0,none⟩)] 104∧iD W g4 #[.int .i64 0] 36∧Below w.heap.size w W)
  (fun c pre W=>∃ ini last,(c = .ret∧pre = ini++[last]∧Bj false s.shores last.1 = true)∧iD W g4 #[.int .i64 21] 36∧Below w.heap.size w W)
  (OwnFrom.and (ownFrom_pure _ _) (OwnFrom.and (o9 _ _ (fun _=>_) _) (OwnFrom.and (o9 _ _ (fun _=>_) _) (ownFrom_below (by omega) (by omega)))))
  (fun c pre X Y row hs hg hr=>by
   obtain ⟨ini,last,h1,h2,h3⟩:=hs
   exact ⟨ini,last,h1,OI h2 hg hr,ownFrom_below (by omega) (by omega) () X Y row h3 hg hr⟩)
  ⟨by simp,m2,m4,mB⟩
  (fun c a' W=>a' = { tmps:=#[.pointer (some ⟨b,0,none⟩),.agg #[.int .i64 x.f0.f0,.int .i64 x.f0.f1,.int .i64 x.f1.f0,.int .i64 x.f1.f1],.pointer (some ⟨g2,0,none⟩),.pointer (some ⟨g3,0,none⟩),.pointer (some ⟨g4,0,none⟩),.int .i64 c.1,.pointer (some ⟨b,0,none⟩),.agg #[.int .i64 x.f0.f0,.int .i64 x.f0.f1,.int .i64 x.f1.f0,.int .i64 x.f1.f1],.func (.func 135) #[] #[.pointer (some ⟨gP,0,none⟩),.pointer (some ⟨gX,0,none⟩)],.int .i64 c.1,undef,undef,undef,undef,undef,undef,undef,undef],defers:=[] })
  (fun c a' s X Y row hs hg hr=>hs) ?assign ?body ?done ?stop
 case assign =>
  rintro l pre c W K hI hK
  gi_wp2
  exact hK _ _ ((KeepsOthers.refl W).from _) (Below.refl _ _) hI rfl
 case body =>
  rintro l pre c a' W hlW ⟨r,hr⟩ ⟨h0,h2,h4,hB⟩ rfl hlen
  have hT2:=hT.below hB
  obtain ⟨A7,c7,A8,c8,hBt,q1,q2,_⟩:=hT2
  have hlt:c.1 < (s.shores.length:Int):=by rw [HSH.out];exact c.2.2
  have hge:=c.2.1
  obtain ⟨ad,e_,hx_⟩:=Kd.Mx q2 c.1 hge hlt
  cases e_
  have c2:=(aa h2 0).trans rfl
  have ct:=(aa hBt 7).trans rfl
  clear hBt q1 q2 hr
  cases hv:Bj false s.shores c.1 with
  |false =>
   rw [hv] at hx_
   have HV:=Lib.hid hv
   clear hv
   gi_wp2
   exact ⟨(KeepsOthers.refl W).from _,Below.refl _ _,by
    intro p hp
    rcases List.mem_append.1 hp with hp|hp
    ·exact h0 p hp
    ·obtain rfl:=List.mem_singleton.1 hp
     exact HV.out,h2,h4,hB⟩
  |true =>
   rw [hv] at hx_
   have HV:=Lib.hid hv
   clear hv
   have c4:=(aa h4 0).trans rfl
   have f4:=aX h4 0
   gi_wp2
   exact ⟨(KeepsOthers.setCell _ _ _).from _,pre,c,⟨rfl,rfl,HV.out⟩,aI h4 0 _ rfl,hB.setCell hG4 _⟩
 case done =>
  rintro D_ xs W hD hxs ⟨h0,h2,h4,hB⟩ hK
  have hE:=Lib.hid (afN hxs h0)
  clear h0
  have c4:=(aa h4 0).trans rfl
  have f4:=aX h4 0
  gi_wp2
  have hne:D_≠g4:=by have h_:=dV m4;omega
  refine ⟨by simp,.inl ⟨_,_,rfl,run_takeDeferred ((Below.heap_setCell _ _ _ D_ hne).trans hK),?_⟩⟩
  exact ⟨_,OJ rfl _ _ g4 36 (.int .i64 0) rfl ((World.putObj_heap_other (fun e=>hne e.symm)).trans (aI h4 0 _ rfl)) Try.underlying36,by rw [hE.out],(hB.setCell hG4 _).trans (belowK_b (w:=w) (Nat.le_refl _) _ D_ _ _ (by have h_:=hB.size;omega) ((Below.heap_setCell _ _ _ D_ hne).trans hK) rfl rfl)⟩
 case stop =>
  rintro D_ c pre W hD hp ⟨ini,last,⟨rfl,rfl,h1⟩,h4,hB⟩ hK
  have hE:=Lib.hid (acZ hp h1)
  gi_wp2
  have hne:D_≠g4:=by have h_:=dV m4;omega
  refine ⟨by simp,.inl ⟨_,_,rfl,run_takeDeferred hK,?_⟩⟩
  exact ⟨_,OJ rfl _ _ g4 36 (.int .i64 21) rfl ((World.putObj_heap_other (fun e=>hne e.symm)).trans h4) Try.underlying36,by rw [hE.out],hB.trans (belowK_b (w:=w) (Nat.le_refl _) _ D_ _ _ (by omega) hK rfl rfl)⟩
end Go.Proofs.Ytmhaiihjfgfaoaa.Gl
end
section
namespace Go.Proofs.Ytmhaiihjfgfaoaa.Pr
open Go.RowKit Go.Proofs.YtmhaiihjfgfaoaaW.PrintWords Go.Proofs.YtmhaiihjfgfaoaaW.PrintLast Go.Proofs.YtmhaiihjfgfaoaaW.PrintMore
attribute [local go_sem] cz cB dK dL cK
set_option linter.unusedVariables false
set_option linter.unusedSimpArgs false
def xZ.f (aj:Int) (ak:Int) (ax:Int) (ay:Int) (aU:Int) (aQ:Int) (aZ:Int) (bf:Int):Option (Int × Int × Int × Int):=some (mn aj aU,mx ak aQ,mn ax aZ,mx ay bf)
set_option maxHeartbeats 8000000 in
set_option maxRecDepth 100000 in
theorem xZ.calls (aj:Int) (ak:Int) (ax:Int) (ay:Int) (aU:Int) (aQ:Int) (aZ:Int) (bf:Int) (r1:Int) (r2:Int) (r3:Int) (r4:Int) (w:World) (h:xZ.f aj ak ax ay aU aQ aZ bf = some (r1,r2,r3,r4)):
 Calls Try.prog 119 #[.agg #[.int .i64 aj,.int .i64 ak,.int .i64 ax,.int .i64 ay],.agg #[.int .i64 aU,.int .i64 aQ,.int .i64 aZ,.int .i64 bf]] w fun e w'=>e = .returned (.agg #[.int .i64 r1,.int .i64 r2,.int .i64 r3,.int .i64 r4])∧Below w.heap.size w w':=by
 have qP:=Try.underlying31
 have pK:=Try.underlying27
 have HB:=ae.mk (Below.refl w.heap.size w)
 have H:(some (mn aj aU,mx ak aQ,mn ax aZ,mx ay bf)) = some (r1,r2,r3,r4):=h
 clear h
 obtain ⟨Ic,Ih⟩:∃ j_:Int,(mn aj aU) = j_:=⟨_,rfl⟩
 replace H:(some (Ic,mx ak aQ,mn ax aZ,mx ay bf)) = some (r1,r2,r3,r4):=by first|(rw [Ih] at H;exact H)|(simp only [Ih] at H ⊢;exact H)
 have akB:(if aU < aj then aU else aj) = Ic:=Ih
 obtain ⟨ji4,Rc⟩:∃ j_:Int,(mx ak aQ) = j_:=⟨_,rfl⟩
 replace H:(some (Ic,ji4,mn ax aZ,mx ay bf)) = some (r1,r2,r3,r4):=by first|(rw [Rc] at H;exact H)|(simp only [Rc] at H ⊢;exact H)
 have aoG:(if ak < aQ then aQ else ak) = ji4:=Rc
 obtain ⟨ji5,afP⟩:∃ j_:Int,(mn ax aZ) = j_:=⟨_,rfl⟩
 replace H:(some (Ic,ji4,ji5,mx ay bf)) = some (r1,r2,r3,r4):=by first|(rw [afP] at H;exact H)|(simp only [afP] at H ⊢;exact H)
 have aEy:(if aZ < ax then aZ else ax) = ji5:=afP
 obtain ⟨ji6,afQ⟩:∃ j_:Int,(mx ay bf) = j_:=⟨_,rfl⟩
 replace H:(some (Ic,ji4,ji5,ji6)) = some (r1,r2,r3,r4):=by first|(rw [afQ] at H;exact H)|(simp only [afQ] at H ⊢;exact H)
 have aEz:(if ay < bf then bf else ay) = ji6:=afQ
 simp only [Option.some.injEq,Prod.mk.injEq] at H
 obtain ⟨rfl,rfl,rfl,rfl⟩:=H
 go_enter Try.func119,Try.ntmps119
 go_wp2_with (first|((with_reducible refine aA (N:=2) rfl ?_);refine az (by rfl) (N:=2) (by rfl) (cs:=#[.int .i64 aj,.int .i64 ak,.int .i64 ax,.int .i64 ay]) (t:=31) gQ ?_;intro aEA hg w7 hbox hb;have Ii:=ae.mk (hbox);have aEB:=dn HB hg;have aEC:=dn HB hg;replace HB:=dF HB hb;clear hb hbox hg)|((with_reducible refine aA (N:=3) rfl ?_);refine az (by rfl) (N:=3) (by rfl) (cs:=#[.int .i64 aU,.int .i64 aQ,.int .i64 aZ,.int .i64 bf]) (t:=31) gQ ?_;intro aED hg w8 hbox hb;have Ur:=ae.mk (hbox);have aEE:=dn HB hg;have aEF:=dn HB hg;have abj:=iE Ii hg;have abk:=iF Ii hg;replace Ii:=bC Ii hb;replace HB:=dF HB hb;clear hb hbox hg)|((with_reducible refine aA (N:=4) rfl ?_);refine az (by rfl) (N:=4) (by rfl) (cs:=#[.int .i64 0,.int .i64 0,.int .i64 0,.int .i64 0]) (t:=31) gQ ?_;intro aoI hg w9 hbox hb;have akC:=ae.mk (hbox);have aEG:=dn HB hg;have aEH:=dn HB hg;have abl:=iE Ii hg;have abm:=iF Ii hg;have abn:=iE Ur hg;have abo:=iF Ur hg;replace Ii:=bC Ii hb;replace Ur:=bC Ur hb;replace HB:=dF HB hb;clear hb hbox hg;have ac3:=abj.out;have ac4:=abk.out;have Us:=abl.out;have Ut:=abm.out;obtain ⟨uS,uT,Ij,Ik,uU,uV,Il,Im⟩:=iC Ii.out;have Ye:=abn.out;have Yf:=abo.out;obtain ⟨wm,wo,DR,DT,wu,wy,DU,DV⟩:=iC Ur.out;obtain ⟨pM,pO,rJ,rM,pQ,pR,rO,rP⟩:=iC akC.out))
 refine bodyPost_ret (results_cell_row rfl _ _ aoI 31 #[.int .i64 Ic,.int .i64 ji4,.int .i64 ji5,.int .i64 ji6] (0,0) _ rfl (by (with_reducible repeat (first|refine au ?_ _|refine ah ?_|refine ag ?_ _));refine aI (cs:=#[.int .i64 Ic,.int .i64 ji4,.int .i64 ji5,.int .i64 0]) ?_ 3 _ rfl;(with_reducible repeat (first|refine au ?_ _|refine ah ?_|refine ag ?_ _));refine aI (cs:=#[.int .i64 Ic,.int .i64 ji4,.int .i64 0,.int .i64 0]) ?_ 2 _ rfl;(with_reducible repeat (first|refine au ?_ _|refine ah ?_|refine ag ?_ _));refine aI (cs:=#[.int .i64 Ic,.int .i64 0,.int .i64 0,.int .i64 0]) ?_ 1 _ rfl;(with_reducible repeat (first|refine au ?_ _|refine ah ?_|refine ag ?_ _));refine aI (cs:=#[.int .i64 0,.int .i64 0,.int .i64 0,.int .i64 0]) ?_ 0 _ rfl;(with_reducible repeat (first|refine au ?_ _|refine ah ?_|refine ag ?_ _));exact akC.out) Try.underlying31 rfl aR) rfl ?_
 exact ⟨by first|rfl|(simp [kr,ku] <;> rfl)|(simp only [← Ih,← Rc,← afP,← afQ];first|rfl|(simp [kr,ku] <;> rfl))|(simp [*,kr,ku] <;> rfl),gM⟩
end Go.Proofs.Ytmhaiihjfgfaoaa.Pr
end
