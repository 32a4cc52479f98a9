import Derived.Test.YtmhaiihjfgfaoaaGzGliderReaches3
import Derived.Test.YtmhaiihjfgfaoaaGzGliderReaches6
open Go.Value renaming int → U
open Go.IntKind renaming i64 → Z
open Bool renaming true → ab, false → ac
section
namespace Go.Proofs.Ytmhaiihjfgfaoaa.Gl
open Go.RowKit Go.Shelf Go.Proofs.YtmhaiihjfgfaoaaW.PrintWords Go.Proofs.YtmhaiihjfgfaoaaW.PrintLast Go.Proofs.YtmhaiihjfgfaoaaW.PrintMore Go.Proofs.Ytmhaiihjfgfaoaa.Pr Go.Proofs.YtmhaiihjfgfaoaaW.Round
set_option linter.unusedVariables false
set_option linter.unusedSimpArgs false
attribute [local go_sem] eD eF fD fE eG
attribute [local go_sem] Oper.semAt_some
theorem eT.zZ {W W1:World} {b:Nat} {c:Array Value} {t:TypeId} (h:W.heap[b]? = some (.cells c t (0,0))) (hb:Below W.heap.size W W1):eT W1 b c t:=(hb.block b (Array.getElem?_eq_some_iff.1 h).1).trans h
theorem Gx {B b:Nat} {c:Array Value} {t:TypeId} {X Y:World} {row:Option Nat} (hs:eT X b c t) (hg:X.grownBy Y row) (hr:∀ r,row = some r→B≤r∧∃ o:Obj,X.heap[r]? = some o∧o.isCells = false):eT Y b c t :=
 (hg.block b (Array.getElem?_eq_some_iff.1 hs).1 (fun e=>by obtain ⟨_,o,ho,hc⟩:=hr b e.symm;rw [show X.heap[b]? = _ from hs] at ho;cases ho;cases hc)).trans hs
theorem mh {B:Nat} {W W1:World} (hb:Below W.heap.size W W1):KeepsFrom B W W1 :=
 ⟨hb.size,fun k o _ h0 _=>(hb.block k (Array.getElem?_eq_some_iff.1 h0).1).trans h0⟩
theorem ib {β:Type} (B b:Nat) (f:β→Array Value) (t:TypeId):OwnFrom B (fun s W=>eT W b (f s) t):=fun s X Y row hs hg hr=>Gx hs hg hr
theorem ownFrom_pure {β:Type} (B:Nat) (f:β→Prop):OwnFrom B (fun s (_:World)=>f s):=fun s X Y row hs hg hr=>hs
theorem Sy {P:Program} {fn:Func} {p:Tmp} {ty:TypeId} {k:IntKind} (h:fn.results = #[.cell p ty]) (tmps:Array Value) (w:World) (g:Nat) (t:TypeId) (v:Value) (hp:tmps.getD p undef = .pointer (some ⟨g,0,none⟩)) (hg:w.heap[g]? = some (.cells #[v] t (0,0))) (hu:P.underlying ty = some (.int k)):
 (results fn tmps).run P w = .ok v w:=by
 have hp':tmps[p]?.getD undef = .pointer (some ⟨g,0,none⟩):=by simpa using hp
 have hc:w.cell? ⟨g,0,none⟩ = some v:=(af hg 0).trans rfl
 have hb:(loadVar ty ⟨g,0,none⟩).run P w = .ok v w:=by
  have ha:(isAgg ty).run P w = .ok false w:=by
   unfold isAgg
   rw [Sem.run_bind,run_underlying hu w]
   rfl
  unfold loadVar
  rw [Sem.run_bind,ha]
  go_simp
 simp [results,h,hp',asAddr,hb]
def Hd (s:j3) (x:dO):Int:=if (uA s x).any (fun c=>Uz false s.shores c) then 21 else 0
theorem asi {s:j3} {x:dO} {xs:List (EJ s)} (h:ake s x xs) (hf:∀ c ∈ xs,Uz false s.shores c.1 = false):Hd s x = 0:=by
 unfold Hd
 rw [← show xs.map Subtype.val = uA s x from h,if_neg]
 rw [List.any_map,List.any_eq_true]
 rintro ⟨c,hc,h1⟩
 have h2:=hf c hc
 rw [show Uz false s.shores c.1 = true from h1] at h2
 cases h2
theorem akf {s:j3} {x:dO} {ini:List (EJ s)} {last:EJ s} (h:ash s x (ini++[last])) (hl:Uz false s.shores last.1 = true):Hd s x = 21:=by
 unfold Hd
 obtain ⟨t,ht⟩:=h
 rw [← ht,if_pos]
 rw [List.map_append,List.any_append,List.any_append]
 simp [hl]
set_option maxRecDepth 100000 in
set_option maxHeartbeats 4000000 in
theorem ahg (b:Nat) (s:j3) (v:nz) (x:dO) (w:World) (hT:jo w b s v) (hS:Dy s) (hx:Ty s x) (hsh:(s.shores.length:Int) = s.nx*s.ny):
 Calls Try.prog 115 #[.pointer (some ⟨b,0,none⟩),.agg #[U Z x.f0.f0,U Z x.f0.f1,U Z x.f1.f0,U Z x.f1.f1]] w (sI (U Z (Hd s x)) w):=by
 have oP:=Try.underlying31
 have hxy:=iF (show 0≤s.nx by have:=hS.nx;omega) hS.nx.2 (show 0≤s.ny by have:=hS.ny;omega) hS.ny.2
 have HSH:=Lib.hid hsh
 clear hsh
 refine (callsIn_wide (n:=6)).1 ?_
 refine callsIn_of_wp_marks Try.func115 rfl trivial ?_ rfl
 simp only [Try.ntmps115,List.size_toArray,List.length_cons,List.length_nil,Nat.reduceAdd,Nat.reduceSub,Array.replicate_succ,Array.replicate_zero,List.push_toArray,List.append_toArray,List.nil_append,List.cons_append]
 gi_wp2_with fail
 refine ⟨trivial,(callsIn_wide.2 (PE _ _ _)).mono ?_⟩
 rintro e W_ ⟨rfl,rfl⟩
 gi_wp2_with fail
 have m2:eT (((((w.alloc (.cells #[.pointer (some ⟨b,0,none⟩)] 104)).alloc (.cells #[U Z x.f0.f0,U Z x.f0.f1,U Z x.f1.f0,U Z x.f1.f1] 31)).alloc (.cells #[U Z 0] 36)).alloc (.cells #[.pointer (some ⟨b,0,none⟩)] 104)).alloc (.cells #[U Z x.f0.f0,U Z x.f0.f1,U Z x.f1.f0,U Z x.f1.f1] 31)) (w.heap.size) #[.pointer (some ⟨b,0,none⟩)] 104:=(ae (ae (ae (ae awc _) _) _) _)
 have m3:eT (((((w.alloc (.cells #[.pointer (some ⟨b,0,none⟩)] 104)).alloc (.cells #[U Z x.f0.f0,U Z x.f0.f1,U Z x.f1.f0,U Z x.f1.f1] 31)).alloc (.cells #[U Z 0] 36)).alloc (.cells #[.pointer (some ⟨b,0,none⟩)] 104)).alloc (.cells #[U Z x.f0.f0,U Z x.f0.f1,U Z x.f1.f0,U Z x.f1.f1] 31)) (w.heap.size+1) #[U Z x.f0.f0,U Z x.f0.f1,U Z x.f1.f0,U Z x.f1.f1] 31:=(ae (ae (ae awd _) _) _)
 have m4:eT (((((w.alloc (.cells #[.pointer (some ⟨b,0,none⟩)] 104)).alloc (.cells #[U Z x.f0.f0,U Z x.f0.f1,U Z x.f1.f0,U Z x.f1.f1] 31)).alloc (.cells #[U Z 0] 36)).alloc (.cells #[.pointer (some ⟨b,0,none⟩)] 104)).alloc (.cells #[U Z x.f0.f0,U Z x.f0.f1,U Z x.f1.f0,U Z x.f1.f1] 31)) (w.heap.size+1+1) #[U Z 0] 36:=(ae (ae (by have h_:=eP ((w.alloc (.cells #[.pointer (some ⟨b,0,none⟩)] 104)).alloc (.cells #[U Z x.f0.f0,U Z x.f0.f1,U Z x.f1.f0,U Z x.f1.f1] 31)) (.cells #[U Z 0] 36);first|exact h_|(simp only [World.size_alloc] at h_;exact h_)) _) _)
 have mP:eT (((((w.alloc (.cells #[.pointer (some ⟨b,0,none⟩)] 104)).alloc (.cells #[U Z x.f0.f0,U Z x.f0.f1,U Z x.f1.f0,U Z x.f1.f1] 31)).alloc (.cells #[U Z 0] 36)).alloc (.cells #[.pointer (some ⟨b,0,none⟩)] 104)).alloc (.cells #[U Z x.f0.f0,U Z x.f0.f1,U Z x.f1.f0,U Z x.f1.f1] 31)) (w.heap.size+1+1+1) #[.pointer (some ⟨b,0,none⟩)] 104:=(ae (by have h_:=eP (((w.alloc (.cells #[.pointer (some ⟨b,0,none⟩)] 104)).alloc (.cells #[U Z x.f0.f0,U Z x.f0.f1,U Z x.f1.f0,U Z x.f1.f1] 31)).alloc (.cells #[U Z 0] 36)) (.cells #[.pointer (some ⟨b,0,none⟩)] 104);first|exact h_|(simp only [World.size_alloc] at h_;exact h_)) _)
 have mX:eT (((((w.alloc (.cells #[.pointer (some ⟨b,0,none⟩)] 104)).alloc (.cells #[U Z x.f0.f0,U Z x.f0.f1,U Z x.f1.f0,U Z x.f1.f1] 31)).alloc (.cells #[U Z 0] 36)).alloc (.cells #[.pointer (some ⟨b,0,none⟩)] 104)).alloc (.cells #[U Z x.f0.f0,U Z x.f0.f1,U Z x.f1.f0,U Z x.f1.f1] 31)) (w.heap.size+1+1+1+1) #[U Z x.f0.f0,U Z x.f0.f1,U Z x.f1.f0,U Z x.f1.f1] 31:=(by have h_:=eP ((((w.alloc (.cells #[.pointer (some ⟨b,0,none⟩)] 104)).alloc (.cells #[U Z x.f0.f0,U Z x.f0.f1,U Z x.f1.f0,U Z x.f1.f1] 31)).alloc (.cells #[U Z 0] 36)).alloc (.cells #[.pointer (some ⟨b,0,none⟩)] 104)) (.cells #[U Z x.f0.f0,U Z x.f0.f1,U Z x.f1.f0,U Z x.f1.f1] 31);first|exact h_|(simp only [World.size_alloc] at h_;exact h_))
 have mB:Below w.heap.size w (((((w.alloc (.cells #[.pointer (some ⟨b,0,none⟩)] 104)).alloc (.cells #[U Z x.f0.f0,U Z x.f0.f1,U Z x.f1.f0,U Z x.f1.f1] 31)).alloc (.cells #[U Z 0] 36)).alloc (.cells #[.pointer (some ⟨b,0,none⟩)] 104)).alloc (.cells #[U Z x.f0.f0,U Z x.f0.f1,U Z x.f1.f0,U Z x.f1.f1] 31)):=(aT (aT (aT (aT (aT (Below.refl w.heap.size w) _) _) _) _) _)
 have jS:w.heap.size≤w.heap.size:=Nat.le_refl _
 generalize qL:(((((w.alloc (.cells #[.pointer (some ⟨b,0,none⟩)] 104)).alloc (.cells #[U Z x.f0.f0,U Z x.f0.f1,U Z x.f1.f0,U Z x.f1.f1] 31)).alloc (.cells #[U Z 0] 36)).alloc (.cells #[.pointer (some ⟨b,0,none⟩)] 104)).alloc (.cells #[U Z x.f0.f0,U Z x.f0.f1,U Z x.f1.f0,U Z x.f1.f1] 31)) = W0 at m2 m3 m4 mP mX mB ⊢
 clear qL
 generalize hg2:w.heap.size = g2 at m2 m3 m4 mP mX ⊢
 have hG2:w.heap.size≤g2:=by omega
 generalize hg3:g2+1 = g3 at m3 m4 mP mX ⊢
 have Ky:g2≠g3:=by omega
 have ZV:g3≠g2:=Ky.symm
 have hG3:w.heap.size≤g3:=by omega
 generalize hg4:g3+1 = g4 at m4 mP mX ⊢
 have awG:g2≠g4:=by omega
 have awH:g3≠g4:=by omega
 have aPR:g4≠g2:=awG.symm
 have aPS:g4≠g3:=awH.symm
 have hG4:w.heap.size≤g4:=by omega
 generalize hgP:g4+1 = gP at mP mX ⊢
 have awI:g2≠gP:=by omega
 have awJ:g3≠gP:=by omega
 have WS:g4≠gP:=by omega
 have aPT:gP≠g2:=awI.symm
 have aPU:gP≠g3:=awJ.symm
 have aji:gP≠g4:=WS.symm
 have hGP:w.heap.size≤gP:=by omega
 generalize hgX:gP+1 = gX at mX ⊢
 have awK:g2≠gX:=by omega
 have awL:g3≠gX:=by omega
 have awM:g4≠gX:=by omega
 have Xu:gP≠gX:=by omega
 have aPV:gX≠g2:=awK.symm
 have aPW:gX≠g3:=awL.symm
 have aPX:gX≠g4:=awM.symm
 have akg:gX≠gP:=Xu.symm
 have hGX:w.heap.size≤gX:=by omega
 clear jS
 try clear hgX
 try clear hgP
 try clear hg4
 try clear hg3
 try clear hg2
 have BQ:w.heap.size≤W0.heap.size:=mB.size
 refine wpIn_rangeFunc_ownH rfl (by omega) (gf:=135) (lb:=#[.pointer (some ⟨gP,0,none⟩),.pointer (some ⟨gX,0,none⟩)]) rfl trivial (enters_of Try.func135 aY rfl)
  (encs:=fun c:EJ s=>#[U Z c.1]) (Kp:=Below W0.heap.size) (S:=ake s x) (Sp:=ash s x) (N:=(uA s x).length) (w0:=W0)
  (fun l J Jx W hW hJ _ hY h0=>PG 5 (by omega) l gP gX W0 b s v x (hT.below mB) hS hx (Below W0.heap.size) (fun A B h hE=>⟨hE.1.trans h,(h.block gP (bP mP)).trans hE.2.1,(h.block gX (bP mX)).trans hE.2.2⟩) J Jx hY (fun f X Y h hB=>hJ f X Y none h ⟨hB.os,hB.tape,hB.output,hB.size,fun k hk _=>hB.block k hk⟩ (fun r e=>by cases e)) W ⟨hW,eT.zZ mP hW,eT.zZ mX hW⟩ h0) belowK_t (belowK_b (by omega)) (Below.refl _ _) (fun _=>rfl)
  (fun pre W=>(∀ c ∈ pre,Uz false s.shores c.1 = false)∧eT W g2 #[.pointer (some ⟨b,0,none⟩)] 104∧eT W g4 #[U Z 0] 36∧Below w.heap.size w W)
  (fun c pre W=>∃ ini last,(c = .ret∧pre = ini++[last]∧Uz false s.shores last.1 = true)∧eT W g4 #[U Z 21] 36∧Below w.heap.size w W)
  (OwnFrom.and (ownFrom_pure _ _) (OwnFrom.and (ib _ _ (fun _=>_) _) (OwnFrom.and (ib _ _ (fun _=>_) _) (ownFrom_below (by omega) (by omega)))))
  (fun c pre X Y row hs hg hr=>by
   obtain ⟨ini,last,h1,h2,h3⟩:=hs
   exact ⟨ini,last,h1,Gx h2 hg hr,ownFrom_below (by omega) (by omega) () X Y row h3 hg hr⟩)
  ⟨by simp,m2,m4,mB⟩
  (fun c a' W=>a' = { tmps:=#[.pointer (some ⟨b,0,none⟩),.agg #[U Z x.f0.f0,U Z x.f0.f1,U Z x.f1.f0,U Z x.f1.f1],.pointer (some ⟨g2,0,none⟩),.pointer (some ⟨g3,0,none⟩),.pointer (some ⟨g4,0,none⟩),U Z c.1,.pointer (some ⟨b,0,none⟩),.agg #[U Z x.f0.f0,U Z x.f0.f1,U Z x.f1.f0,U Z x.f1.f1],.func (.func 135) #[] #[.pointer (some ⟨gP,0,none⟩),.pointer (some ⟨gX,0,none⟩)],U Z c.1,undef,undef,undef,undef,undef,undef,undef,undef],defers:=[] })
  (fun c a' s X Y row hs hg hr=>hs) ?assign ?body ?done ?stop
 case assign =>
  rintro l pre c W K hI hK
  gi_wp2
  exact hK _ _ ((KeepsOthers.refl W).from _) (Below.refl _ _) hI rfl
 case body =>
  rintro l pre c a' W hlW ⟨r,hr⟩ ⟨h0,h2,h4,hB⟩ rfl hlen
  have hT2:=hT.below hB
  obtain ⟨A7,c7,A8,c8,hBt,q1,q2,_⟩:=hT2
  have hlt:c.1 < (s.shores.length:Int):=by rw [HSH.out];exact c.2.2
  have hge:=c.2.1
  obtain ⟨ad,e_,hx_⟩:=Kd.akx q2 c.1 hge hlt
  cases e_
  have c2:=(af h2 0).trans rfl
  have ct:=(af hBt 7).trans rfl
  clear hBt q1 q2 hr
  cases hv:Uz false s.shores c.1 with
  |false =>
   rw [hv] at hx_
   have HV:=Lib.hid hv
   clear hv
   gi_wp2
   exact ⟨(KeepsOthers.refl W).from _,Below.refl _ _,by
    intro p hp
    rcases List.mem_append.1 hp with hp|hp
    ·exact h0 p hp
    ·obtain rfl:=List.mem_singleton.1 hp
     exact HV.out,h2,h4,hB⟩
  |true =>
   rw [hv] at hx_
   have HV:=Lib.hid hv
   clear hv
   have c4:=(af h4 0).trans rfl
   have f4:=bn h4 0
   gi_wp2
   exact ⟨(KeepsOthers.setCell _ _ _).from _,pre,c,⟨rfl,rfl,HV.out⟩,aI h4 0 _ rfl,hB.setCell hG4 _⟩
 case done =>
  rintro D_ xs W hD hxs ⟨h0,h2,h4,hB⟩ hK
  have hE:=Lib.hid (asi hxs h0)
  clear h0
  have c4:=(af h4 0).trans rfl
  have f4:=bn h4 0
  gi_wp2
  have hne:D_≠g4:=by have h_:=bP m4;omega
  refine ⟨by simp,.inl ⟨_,_,rfl,run_takeDeferred ((Below.heap_setCell _ _ _ D_ hne).trans hK),?_⟩⟩
  exact ⟨_,Sy rfl _ _ g4 36 (U Z 0) rfl ((World.putObj_heap_other (fun e=>hne e.symm)).trans (aI h4 0 _ rfl)) Try.underlying36,by rw [hE.out],(hB.setCell hG4 _).trans (belowK_b (w:=w) (Nat.le_refl _) _ D_ _ _ (by have h_:=hB.size;omega) ((Below.heap_setCell _ _ _ D_ hne).trans hK) rfl rfl)⟩
 case stop =>
  rintro D_ c pre W hD hp ⟨ini,last,⟨rfl,rfl,h1⟩,h4,hB⟩ hK
  have hE:=Lib.hid (akf hp h1)
  gi_wp2
  have hne:D_≠g4:=by have h_:=bP m4;omega
  refine ⟨by simp,.inl ⟨_,_,rfl,run_takeDeferred hK,?_⟩⟩
  exact ⟨_,Sy rfl _ _ g4 36 (U Z 21) rfl ((World.putObj_heap_other (fun e=>hne e.symm)).trans h4) Try.underlying36,by rw [hE.out],hB.trans (belowK_b (w:=w) (Nat.le_refl _) _ D_ _ _ (by omega) hK rfl rfl)⟩
end Go.Proofs.Ytmhaiihjfgfaoaa.Gl
end
section
namespace Go.Proofs.Ytmhaiihjfgfaoaa.Pr
open Go.RowKit Go.Proofs.YtmhaiihjfgfaoaaW.PrintWords Go.Proofs.YtmhaiihjfgfaoaaW.PrintLast Go.Proofs.YtmhaiihjfgfaoaaW.PrintMore
attribute [local go_sem] eD eF fD fE eG
set_option linter.unusedVariables false
set_option linter.unusedSimpArgs false
def Dx.f (ah:Int) (ai:Int) (ax:Int) (ay:Int) (aQ:Int) (aM:Int) (bf:Int) (bg:Int):Option (Int × Int × Int × Int):=some (mn ah aQ,mx ai aM,mn ax bf,mx ay bg)
set_option maxHeartbeats 8000000 in
set_option maxRecDepth 100000 in
theorem Dx.calls (ah:Int) (ai:Int) (ax:Int) (ay:Int) (aQ:Int) (aM:Int) (bf:Int) (bg:Int) (r1:Int) (r2:Int) (r3:Int) (r4:Int) (w:World) (h:Dx.f ah ai ax ay aQ aM bf bg = some (r1,r2,r3,r4)):
 Calls Try.prog 119 #[.agg #[U Z ah,U Z ai,U Z ax,U Z ay],.agg #[U Z aQ,U Z aM,U Z bf,U Z bg]] w fun e w'=>e = .returned (.agg #[U Z r1,U Z r2,U Z r3,U Z r4])∧Below w.heap.size w w':=by
 have oP:=Try.underlying31
 have oo:=Try.underlying27
 have HB:=aa.mk (Below.refl w.heap.size w)
 have H:(some (mn ah aQ,mx ai aM,mn ax bf,mx ay bg)) = some (r1,r2,r3,r4):=h
 clear h
 obtain ⟨BL,G6⟩:∃ j_:Int,(mn ah aQ) = j_:=⟨_,rfl⟩
 replace H:(some (BL,mx ai aM,mn ax bf,mx ay bg)) = some (r1,r2,r3,r4):=by first|(rw [G6] at H;exact H)|(simp only [G6] at H ⊢;exact H)
 have aia:(if aQ < ah then aQ else ah) = BL:=G6
 obtain ⟨Qf,NR⟩:∃ j_:Int,(mx ai aM) = j_:=⟨_,rfl⟩
 replace H:(some (BL,Qf,mn ax bf,mx ay bg)) = some (r1,r2,r3,r4):=by first|(rw [NR] at H;exact H)|(simp only [NR] at H ⊢;exact H)
 have asO:(if ai < aM then aM else ai) = Qf:=NR
 obtain ⟨ji5,RN⟩:∃ j_:Int,(mn ax bf) = j_:=⟨_,rfl⟩
 replace H:(some (BL,Qf,ji5,mx ay bg)) = some (r1,r2,r3,r4):=by first|(rw [RN] at H;exact H)|(simp only [RN] at H ⊢;exact H)
 have aCd:(if bf < ax then bf else ax) = ji5:=RN
 obtain ⟨ji6,asj⟩:∃ j_:Int,(mx ay bg) = j_:=⟨_,rfl⟩
 replace H:(some (BL,Qf,ji5,ji6)) = some (r1,r2,r3,r4):=by first|(rw [asj] at H;exact H)|(simp only [asj] at H ⊢;exact H)
 have aTh:(if ay < bg then bg else ay) = ji6:=asj
 simp only [Option.some.injEq,Prod.mk.injEq] at H
 obtain ⟨rfl,rfl,rfl,rfl⟩:=H
 go_enter Try.func119,Try.ntmps119
 go_wp2_with (first|((with_reducible refine aG (N:=2) rfl ?_);refine az (by rfl) (N:=2) (by rfl) (cs:=#[U Z ah,U Z ai,U Z ax,U Z ay]) (t:=31) fM ?_;intro aTi hg w7 hbox hb;have Np:=aa.mk (hbox);have aTj:=dn HB hg;have aTk:=dn HB hg;replace HB:=dw HB hb;clear hb hbox hg)|((with_reducible refine aG (N:=3) rfl ?_);refine az (by rfl) (N:=3) (by rfl) (cs:=#[U Z aQ,U Z aM,U Z bf,U Z bg]) (t:=31) fM ?_;intro aTl hg w8 hbox hb;have Zr:=aa.mk (hbox);have aTm:=dn HB hg;have aTn:=dn HB hg;have agU:=iq Np hg;have agV:=iw Np hg;replace Np:=bC Np hb;replace HB:=dw HB hb;clear hb hbox hg)|((with_reducible refine aG (N:=4) rfl ?_);refine az (by rfl) (N:=4) (by rfl) (cs:=#[U Z 0,U Z 0,U Z 0,U Z 0]) (t:=31) fM ?_;intro aFz hg w9 hbox hb;have auC:=aa.mk (hbox);have aTo:=dn HB hg;have aTp:=dn HB hg;have agW:=iq Np hg;have agX:=iw Np hg;have agY:=iq Zr hg;have agZ:=iw Zr hg;replace Np:=bC Np hb;replace Zr:=bC Zr hb;replace HB:=dw HB hb;clear hb hbox hg;have ahL:=agU.out;have ahM:=agV.out;have XV:=agW.out;have XW:=agX.out;obtain ⟨qx,qy,P9,Qa,qz,qA,Qb,Qc⟩:=gD Np.out;have XX:=agY.out;have XY:=agZ.out;obtain ⟨vg,vk,Ci,Cj,vo,vv,Ck,Cm⟩:=gD Zr.out;obtain ⟨nI,nJ,rC,rD,nK,nL,rE,rF⟩:=gD auC.out))
 refine bodyPost_ret (results_cell_row rfl _ _ aFz 31 #[U Z BL,U Z Qf,U Z ji5,U Z ji6] (0,0) _ rfl (by (with_reducible repeat (first|refine au ?_ _|refine ag ?_|refine ae ?_ _));refine aI (cs:=#[U Z BL,U Z Qf,U Z ji5,U Z 0]) ?_ 3 _ rfl;(with_reducible repeat (first|refine au ?_ _|refine ag ?_|refine ae ?_ _));refine aI (cs:=#[U Z BL,U Z Qf,U Z 0,U Z 0]) ?_ 2 _ rfl;(with_reducible repeat (first|refine au ?_ _|refine ag ?_|refine ae ?_ _));refine aI (cs:=#[U Z BL,U Z 0,U Z 0,U Z 0]) ?_ 1 _ rfl;(with_reducible repeat (first|refine au ?_ _|refine ag ?_|refine ae ?_ _));refine aI (cs:=#[U Z 0,U Z 0,U Z 0,U Z 0]) ?_ 0 _ rfl;(with_reducible repeat (first|refine au ?_ _|refine ag ?_|refine ae ?_ _));exact auC.out) Try.underlying31 rfl aY) rfl ?_
 exact ⟨by first|rfl|(simp [jD,jE] <;> rfl)|(simp only [← G6,← NR,← RN,← asj];first|rfl|(simp [jD,jE] <;> rfl))|(simp [*,jD,jE] <;> rfl),fu⟩
end Go.Proofs.Ytmhaiihjfgfaoaa.Pr
end
