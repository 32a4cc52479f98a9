import Derived.Test.YtmhaiihjfgfaoaaGfGliderFetch3
import Derived.Test.YtmhaiihjfgfaoaaGfGliderFetch10
set_option linter.unusedVariables false
set_option linter.unusedSimpArgs false
open Go.Value renaming int → U
open Go.IntKind renaming i64 → Z
open Bool renaming true → ab, false → ac
section
namespace Go.Proofs.Ytmhaiihjfgfaoaa.Gl
open Go.RowKit Go.Shelf Go.Proofs.YtmhaiihjfgfaoaaW.PrintWords Go.Proofs.YtmhaiihjfgfaoaaW.PrintLast Go.Proofs.YtmhaiihjfgfaoaaW.PrintMore Go.Proofs.Ytmhaiihjfgfaoaa.Pr Go.Proofs.YtmhaiihjfgfaoaaW.Round
set_option linter.unusedVariables false
set_option linter.unusedSimpArgs false
attribute [local go_sem] gp gq iA iB gu
attribute [local go_sem] Oper.semAt_some
theorem jh.O9 {W W1:World} {b:Nat} {c:Array Value} {t:TypeId} (h:W.heap[b]? = some (.cells c t (0,0))) (hb:Below W.heap.size W W1):jh W1 b c t:=(hb.block b (Array.getElem?_eq_some_iff.1 h).1).trans h
theorem TL {B b:Nat} {c:Array Value} {t:TypeId} {X Y:World} {row:Option Nat} (hs:jh X b c t) (hg:X.grownBy Y row) (hr:∀ r,row = some r→B≤r∧∃ o:Obj,X.heap[r]? = some o∧o.isCells = false):jh Y b c t :=
 (hg.block b (Array.getElem?_eq_some_iff.1 hs).1 (fun e=>by obtain ⟨_,o,ho,hc⟩:=hr b e.symm;rw [show X.heap[b]? = _ from hs] at ho;cases ho;cases hc)).trans hs
theorem I1 {B:Nat} {W W1:World} (hb:Below W.heap.size W W1):KeepsFrom B W W1 :=
 ⟨hb.size,fun k o _ h0 _=>(hb.block k (Array.getElem?_eq_some_iff.1 h0).1).trans h0⟩
theorem tL {β:Type} (B b:Nat) (f:β→Array Value) (t:TypeId):OwnFrom B (fun s W=>jh W b (f s) t):=fun s X Y row hs hg hr=>TL hs hg hr
theorem ownFrom_pure {β:Type} (B:Nat) (f:β→Prop):OwnFrom B (fun s (_:World)=>f s):=fun s X Y row hs hg hr=>hs
theorem TM {P:Program} {fn:Func} {p:Tmp} {ty:TypeId} {k:IntKind} (h:fn.results = #[.cell p ty]) (tmps:Array Value) (w:World) (g:Nat) (t:TypeId) (v:Value) (hp:tmps.getD p undef = .pointer (some ⟨g,0,none⟩)) (hg:w.heap[g]? = some (.cells #[v] t (0,0))) (hu:P.underlying ty = some (.int k)):
 (results fn tmps).run P w = .ok v w:=by
 have hp':tmps[p]?.getD undef = .pointer (some ⟨g,0,none⟩):=by simpa using hp
 have hc:w.cell? ⟨g,0,none⟩ = some v:=(ah hg 0).trans rfl
 have hb:(loadVar ty ⟨g,0,none⟩).run P w = .ok v w:=by
  have ha:(isAgg ty).run P w = .ok false w:=by
   unfold isAgg
   rw [Sem.run_bind,run_underlying hu w]
   rfl
  unfold loadVar
  rw [Sem.run_bind,ha]
  go_simp
 simp [results,h,hp',asAddr,hb]
def DU (s:oJ) (x:jf):Int:=if (rz s x).any (fun c=>GG false s.shores c) then 21 else 0
theorem apW {s:oJ} {x:jf} {xs:List (Fz s)} (h:alH s x xs) (hf:∀ c ∈ xs,GG false s.shores c.1 = false):DU s x = 0:=by
 unfold DU
 rw [← show xs.map Subtype.val = rz s x from h,if_neg]
 rw [List.any_map,List.any_eq_true]
 rintro ⟨c,hc,h1⟩
 have h2:=hf c hc
 rw [show GG false s.shores c.1 = true from h1] at h2
 cases h2
theorem alJ {s:oJ} {x:jf} {ini:List (Fz s)} {last:Fz s} (h:apV s x (ini++[last])) (hl:GG false s.shores last.1 = true):DU s x = 21:=by
 unfold DU
 obtain ⟨t,ht⟩:=h
 rw [← ht,if_pos]
 rw [List.map_append,List.any_append,List.any_append]
 simp [hl]
set_option maxRecDepth 100000 in
set_option maxHeartbeats 4000000 in
theorem alK (b:Nat) (s:oJ) (v:tF) (x:jf) (w:World) (hT:nX w b s v) (hS:BX s) (hx:VK s x) (hsh:(s.shores.length:Int) = s.nx*s.ny):
 Calls Try.prog 115 #[.pointer (some ⟨b,0,none⟩),.agg #[U Z x.f0.f0,U Z x.f0.f1,U Z x.f1.f0,U Z x.f1.f1]] w (zn (U Z (DU s x)) w):=by
 have rO:=Try.underlying31
 have hxy:=iI (show 0≤s.nx by have:=hS.nx;omega) hS.nx.2 (show 0≤s.ny by have:=hS.ny;omega) hS.ny.2
 have HSH:=Lib.hid hsh
 clear hsh
 refine (callsIn_wide (n:=6)).1 ?_
 refine callsIn_of_wp_marks Try.func115 rfl trivial ?_ rfl
 simp only [Try.ntmps115,List.size_toArray,List.length_cons,List.length_nil,Nat.reduceAdd,Nat.reduceSub,Array.replicate_succ,Array.replicate_zero,List.push_toArray,List.append_toArray,List.nil_append,List.cons_append]
 gi_wp2_with fail
 refine ⟨trivial,(callsIn_wide.2 (QB _ _ _)).mono ?_⟩
 rintro e W_ ⟨rfl,rfl⟩
 gi_wp2_with fail
 have m2:jh (((((w.alloc (.cells #[.pointer (some ⟨b,0,none⟩)] 104)).alloc (.cells #[U Z x.f0.f0,U Z x.f0.f1,U Z x.f1.f0,U Z x.f1.f1] 31)).alloc (.cells #[U Z 0] 36)).alloc (.cells #[.pointer (some ⟨b,0,none⟩)] 104)).alloc (.cells #[U Z x.f0.f0,U Z x.f0.f1,U Z x.f1.f0,U Z x.f1.f1] 31)) (w.heap.size) #[.pointer (some ⟨b,0,none⟩)] 104:=(af (af (af (af aBp _) _) _) _)
 have m3:jh (((((w.alloc (.cells #[.pointer (some ⟨b,0,none⟩)] 104)).alloc (.cells #[U Z x.f0.f0,U Z x.f0.f1,U Z x.f1.f0,U Z x.f1.f1] 31)).alloc (.cells #[U Z 0] 36)).alloc (.cells #[.pointer (some ⟨b,0,none⟩)] 104)).alloc (.cells #[U Z x.f0.f0,U Z x.f0.f1,U Z x.f1.f0,U Z x.f1.f1] 31)) (w.heap.size+1) #[U Z x.f0.f0,U Z x.f0.f1,U Z x.f1.f0,U Z x.f1.f1] 31:=(af (af (af aBq _) _) _)
 have m4:jh (((((w.alloc (.cells #[.pointer (some ⟨b,0,none⟩)] 104)).alloc (.cells #[U Z x.f0.f0,U Z x.f0.f1,U Z x.f1.f0,U Z x.f1.f1] 31)).alloc (.cells #[U Z 0] 36)).alloc (.cells #[.pointer (some ⟨b,0,none⟩)] 104)).alloc (.cells #[U Z x.f0.f0,U Z x.f0.f1,U Z x.f1.f0,U Z x.f1.f1] 31)) (w.heap.size+1+1) #[U Z 0] 36:=(af (af (by have h_:=gT ((w.alloc (.cells #[.pointer (some ⟨b,0,none⟩)] 104)).alloc (.cells #[U Z x.f0.f0,U Z x.f0.f1,U Z x.f1.f0,U Z x.f1.f1] 31)) (.cells #[U Z 0] 36);first|exact h_|(simp only [World.size_alloc] at h_;exact h_)) _) _)
 have mP:jh (((((w.alloc (.cells #[.pointer (some ⟨b,0,none⟩)] 104)).alloc (.cells #[U Z x.f0.f0,U Z x.f0.f1,U Z x.f1.f0,U Z x.f1.f1] 31)).alloc (.cells #[U Z 0] 36)).alloc (.cells #[.pointer (some ⟨b,0,none⟩)] 104)).alloc (.cells #[U Z x.f0.f0,U Z x.f0.f1,U Z x.f1.f0,U Z x.f1.f1] 31)) (w.heap.size+1+1+1) #[.pointer (some ⟨b,0,none⟩)] 104:=(af (by have h_:=gT (((w.alloc (.cells #[.pointer (some ⟨b,0,none⟩)] 104)).alloc (.cells #[U Z x.f0.f0,U Z x.f0.f1,U Z x.f1.f0,U Z x.f1.f1] 31)).alloc (.cells #[U Z 0] 36)) (.cells #[.pointer (some ⟨b,0,none⟩)] 104);first|exact h_|(simp only [World.size_alloc] at h_;exact h_)) _)
 have mX:jh (((((w.alloc (.cells #[.pointer (some ⟨b,0,none⟩)] 104)).alloc (.cells #[U Z x.f0.f0,U Z x.f0.f1,U Z x.f1.f0,U Z x.f1.f1] 31)).alloc (.cells #[U Z 0] 36)).alloc (.cells #[.pointer (some ⟨b,0,none⟩)] 104)).alloc (.cells #[U Z x.f0.f0,U Z x.f0.f1,U Z x.f1.f0,U Z x.f1.f1] 31)) (w.heap.size+1+1+1+1) #[U Z x.f0.f0,U Z x.f0.f1,U Z x.f1.f0,U Z x.f1.f1] 31:=(by have h_:=gT ((((w.alloc (.cells #[.pointer (some ⟨b,0,none⟩)] 104)).alloc (.cells #[U Z x.f0.f0,U Z x.f0.f1,U Z x.f1.f0,U Z x.f1.f1] 31)).alloc (.cells #[U Z 0] 36)).alloc (.cells #[.pointer (some ⟨b,0,none⟩)] 104)) (.cells #[U Z x.f0.f0,U Z x.f0.f1,U Z x.f1.f0,U Z x.f1.f1] 31);first|exact h_|(simp only [World.size_alloc] at h_;exact h_))
 have mB:Below w.heap.size w (((((w.alloc (.cells #[.pointer (some ⟨b,0,none⟩)] 104)).alloc (.cells #[U Z x.f0.f0,U Z x.f0.f1,U Z x.f1.f0,U Z x.f1.f1] 31)).alloc (.cells #[U Z 0] 36)).alloc (.cells #[.pointer (some ⟨b,0,none⟩)] 104)).alloc (.cells #[U Z x.f0.f0,U Z x.f0.f1,U Z x.f1.f0,U Z x.f1.f1] 31)):=(bA (bA (bA (bA (bA (Below.refl w.heap.size w) _) _) _) _) _)
 have oI:w.heap.size≤w.heap.size:=Nat.le_refl _
 generalize yX:(((((w.alloc (.cells #[.pointer (some ⟨b,0,none⟩)] 104)).alloc (.cells #[U Z x.f0.f0,U Z x.f0.f1,U Z x.f1.f0,U Z x.f1.f1] 31)).alloc (.cells #[U Z 0] 36)).alloc (.cells #[.pointer (some ⟨b,0,none⟩)] 104)).alloc (.cells #[U Z x.f0.f0,U Z x.f0.f1,U Z x.f1.f0,U Z x.f1.f1] 31)) = W0 at m2 m3 m4 mP mX mB ⊢
 clear yX
 generalize hg2:w.heap.size = g2 at m2 m3 m4 mP mX ⊢
 have hG2:w.heap.size≤g2:=by omega
 generalize hg3:g2+1 = g3 at m3 m4 mP mX ⊢
 have TN:g2≠g3:=by omega
 have alL:g3≠g2:=TN.symm
 have hG3:w.heap.size≤g3:=by omega
 generalize hg4:g3+1 = g4 at m4 mP mX ⊢
 have aye:g2≠g4:=by omega
 have TP:g3≠g4:=by omega
 have aWj:g4≠g2:=aye.symm
 have ayf:g4≠g3:=TP.symm
 have hG4:w.heap.size≤g4:=by omega
 generalize hgP:g4+1 = gP at mP mX ⊢
 have ayg:g2≠gP:=by omega
 have ayh:g3≠gP:=by omega
 have ayi:g4≠gP:=by omega
 have aWk:gP≠g2:=ayg.symm
 have aWl:gP≠g3:=ayh.symm
 have aWm:gP≠g4:=ayi.symm
 have hGP:w.heap.size≤gP:=by omega
 generalize hgX:gP+1 = gX at mX ⊢
 have ayj:g2≠gX:=by omega
 have ayk:g3≠gX:=by omega
 have ayl:g4≠gX:=by omega
 have WT:gP≠gX:=by omega
 have aWn:gX≠g2:=ayj.symm
 have aWo:gX≠g3:=ayk.symm
 have aWp:gX≠g4:=ayl.symm
 have alM:gX≠gP:=WT.symm
 have hGX:w.heap.size≤gX:=by omega
 clear oI
 try clear hgX
 try clear hgP
 try clear hg4
 try clear hg3
 try clear hg2
 have VG:w.heap.size≤W0.heap.size:=mB.size
 refine wpIn_rangeFunc_ownH rfl (by omega) (gf:=135) (lb:=#[.pointer (some ⟨gP,0,none⟩),.pointer (some ⟨gX,0,none⟩)]) rfl trivial (enters_of Try.func135 aM rfl)
  (encs:=fun c:Fz s=>#[U Z c.1]) (Kp:=Below W0.heap.size) (S:=alH s x) (Sp:=apV s x) (N:=(rz s x).length) (w0:=W0)
  (fun l J Jx W hW hJ _ hY h0=>QC 5 (by omega) l gP gX W0 b s v x (hT.below mB) hS hx (Below W0.heap.size) (fun A B h hE=>⟨hE.1.trans h,(h.block gP (eG mP)).trans hE.2.1,(h.block gX (eG mX)).trans hE.2.2⟩) J Jx hY (fun f X Y h hB=>hJ f X Y none h ⟨hB.os,hB.tape,hB.output,hB.size,fun k hk _=>hB.block k hk⟩ (fun r e=>by cases e)) W ⟨hW,jh.O9 mP hW,jh.O9 mX hW⟩ h0) belowK_t (belowK_b (by omega)) (Below.refl _ _) (fun _=>rfl)
  (fun pre W=>(∀ c ∈ pre,GG false s.shores c.1 = false)∧jh W g2 #[.pointer (some ⟨b,0,none⟩)] 104∧jh W g4 #[U Z 0] 36∧Below w.heap.size w W)
  (fun c pre W=>∃ ini last,(c = .ret∧pre = ini++[last]∧GG false s.shores last.1 = true)∧jh W g4 #[U Z 21] 36∧Below w.heap.size w W)
  (OwnFrom.and (ownFrom_pure _ _) (OwnFrom.and (tL _ _ (fun _=>_) _) (OwnFrom.and (tL _ _ (fun _=>_) _) (ownFrom_below (by omega) (by omega)))))
  (fun c pre X Y row hs hg hr=>by
   obtain ⟨ini,last,h1,h2,h3⟩:=hs
   exact ⟨ini,last,h1,TL h2 hg hr,ownFrom_below (by omega) (by omega) () X Y row h3 hg hr⟩)
  ⟨by simp,m2,m4,mB⟩
  (fun c a' W=>a' = { tmps:=#[.pointer (some ⟨b,0,none⟩),.agg #[U Z x.f0.f0,U Z x.f0.f1,U Z x.f1.f0,U Z x.f1.f1],.pointer (some ⟨g2,0,none⟩),.pointer (some ⟨g3,0,none⟩),.pointer (some ⟨g4,0,none⟩),U Z c.1,.pointer (some ⟨b,0,none⟩),.agg #[U Z x.f0.f0,U Z x.f0.f1,U Z x.f1.f0,U Z x.f1.f1],.func (.func 135) #[] #[.pointer (some ⟨gP,0,none⟩),.pointer (some ⟨gX,0,none⟩)],U Z c.1,undef,undef,undef,undef,undef,undef,undef,undef],defers:=[] })
  (fun c a' s X Y row hs hg hr=>hs) ?assign ?body ?done ?stop
 case assign =>
  rintro l pre c W K hI hK
  gi_wp2
  exact hK _ _ ((KeepsOthers.refl W).from _) (Below.refl _ _) hI rfl
 case body =>
  rintro l pre c a' W hlW ⟨r,hr⟩ ⟨h0,h2,h4,hB⟩ rfl hlen
  have hT2:=hT.below hB
  obtain ⟨A7,c7,A8,c8,hBt,q1,q2,_⟩:=hT2
  have hlt:c.1 < (s.shores.length:Int):=by rw [HSH.out];exact c.2.2
  have hge:=c.2.1
  obtain ⟨ad,e_,hx_⟩:=Kd.Rj q2 c.1 hge hlt
  cases e_
  have c2:=(ah h2 0).trans rfl
  have ct:=(ah hBt 7).trans rfl
  clear hBt q1 q2 hr
  cases hv:GG false s.shores c.1 with
  |false =>
   rw [hv] at hx_
   have HV:=Lib.hid hv
   clear hv
   gi_wp2
   exact ⟨(KeepsOthers.refl W).from _,Below.refl _ _,by
    intro p hp
    rcases List.mem_append.1 hp with hp|hp
    ·exact h0 p hp
    ·obtain rfl:=List.mem_singleton.1 hp
     exact HV.out,h2,h4,hB⟩
  |true =>
   rw [hv] at hx_
   have HV:=Lib.hid hv
   clear hv
   have c4:=(ah h4 0).trans rfl
   have f4:=bf h4 0
   gi_wp2
   exact ⟨(KeepsOthers.setCell _ _ _).from _,pre,c,⟨rfl,rfl,HV.out⟩,aN h4 0 _ rfl,hB.setCell hG4 _⟩
 case done =>
  rintro D_ xs W hD hxs ⟨h0,h2,h4,hB⟩ hK
  have hE:=Lib.hid (apW hxs h0)
  clear h0
  have c4:=(ah h4 0).trans rfl
  have f4:=bf h4 0
  gi_wp2
  have hne:D_≠g4:=by have h_:=eG m4;omega
  refine ⟨by simp,.inl ⟨_,_,rfl,run_takeDeferred ((Below.heap_setCell _ _ _ D_ hne).trans hK),?_⟩⟩
  exact ⟨_,TM rfl _ _ g4 36 (U Z 0) rfl ((World.putObj_heap_other (fun e=>hne e.symm)).trans (aN h4 0 _ rfl)) Try.underlying36,by rw [hE.out],(hB.setCell hG4 _).trans (belowK_b (w:=w) (Nat.le_refl _) _ D_ _ _ (by have h_:=hB.size;omega) ((Below.heap_setCell _ _ _ D_ hne).trans hK) rfl rfl)⟩
 case stop =>
  rintro D_ c pre W hD hp ⟨ini,last,⟨rfl,rfl,h1⟩,h4,hB⟩ hK
  have hE:=Lib.hid (alJ hp h1)
  gi_wp2
  have hne:D_≠g4:=by have h_:=eG m4;omega
  refine ⟨by simp,.inl ⟨_,_,rfl,run_takeDeferred hK,?_⟩⟩
  exact ⟨_,TM rfl _ _ g4 36 (U Z 21) rfl ((World.putObj_heap_other (fun e=>hne e.symm)).trans h4) Try.underlying36,by rw [hE.out],hB.trans (belowK_b (w:=w) (Nat.le_refl _) _ D_ _ _ (by omega) hK rfl rfl)⟩
end Go.Proofs.Ytmhaiihjfgfaoaa.Gl
end
section
namespace Go.Proofs.Ytmhaiihjfgfaoaa.Pr
open Go.RowKit Go.Proofs.YtmhaiihjfgfaoaaW.PrintWords Go.Proofs.YtmhaiihjfgfaoaaW.PrintLast Go.Proofs.YtmhaiihjfgfaoaaW.PrintMore
attribute [local go_sem] gp gq iA iB gu
set_option linter.unusedVariables false
set_option linter.unusedSimpArgs false
def DV.f (ai:Int) (aj:Int) (aC:Int) (aD:Int) (aI:Int) (aG:Int) (bn:Int) (bq:Int):Option (Int × Int × Int × Int):=some (mn ai aI,mx aj aG,mn aC bn,mx aD bq)
set_option maxHeartbeats 8000000 in
set_option maxRecDepth 100000 in
theorem DV.calls (ai:Int) (aj:Int) (aC:Int) (aD:Int) (aI:Int) (aG:Int) (bn:Int) (bq:Int) (r1:Int) (r2:Int) (r3:Int) (r4:Int) (w:World) (h:DV.f ai aj aC aD aI aG bn bq = some (r1,r2,r3,r4)):
 Calls Try.prog 119 #[.agg #[U Z ai,U Z aj,U Z aC,U Z aD],.agg #[U Z aI,U Z aG,U Z bn,U Z bq]] w fun e w'=>e = .returned (.agg #[U Z r1,U Z r2,U Z r3,U Z r4])∧Below w.heap.size w w':=by
 have rO:=Try.underlying31
 have pz:=Try.underlying27
 have HB:=aa.mk (Below.refl w.heap.size w)
 have H:(some (mn ai aI,mx aj aG,mn aC bn,mx aD bq)) = some (r1,r2,r3,r4):=h
 clear h
 obtain ⟨Dn,Jb⟩:∃ j_:Int,(mn ai aI) = j_:=⟨_,rfl⟩
 replace H:(some (Dn,mx aj aG,mn aC bn,mx aD bq)) = some (r1,r2,r3,r4):=by first|(rw [Jb] at H;exact H)|(simp only [Jb] at H ⊢;exact H)
 have alN:(if aI < ai then aI else ai) = Dn:=Jb
 obtain ⟨Rk,Pb⟩:∃ j_:Int,(mx aj aG) = j_:=⟨_,rfl⟩
 replace H:(some (Dn,Rk,mn aC bn,mx aD bq)) = some (r1,r2,r3,r4):=by first|(rw [Pb] at H;exact H)|(simp only [Pb] at H ⊢;exact H)
 have awf:(if aj < aG then aG else aj) = Rk:=Pb
 obtain ⟨ji5,TQ⟩:∃ j_:Int,(mn aC bn) = j_:=⟨_,rfl⟩
 replace H:(some (Dn,Rk,ji5,mx aD bq)) = some (r1,r2,r3,r4):=by first|(rw [TQ] at H;exact H)|(simp only [TQ] at H ⊢;exact H)
 have aBr:(if bn < aC then bn else aC) = ji5:=TQ
 obtain ⟨ji6,apX⟩:∃ j_:Int,(mx aD bq) = j_:=⟨_,rfl⟩
 replace H:(some (Dn,Rk,ji5,ji6)) = some (r1,r2,r3,r4):=by first|(rw [apX] at H;exact H)|(simp only [apX] at H ⊢;exact H)
 have a1o:(if aD < bq then bq else aD) = ji6:=apX
 simp only [Option.some.injEq,Prod.mk.injEq] at H
 obtain ⟨rfl,rfl,rfl,rfl⟩:=H
 go_enter Try.func119,Try.ntmps119
 go_wp2_with (first|((with_reducible refine aA (N:=2) rfl ?_);refine au (by rfl) (N:=2) (by rfl) (cs:=#[U Z ai,U Z aj,U Z aC,U Z aD]) (t:=31) fG ?_;intro a1p hg w7 hbox hb;have ML:=aa.mk (hbox);have a1q:=bS HB hg;have a1r:=bS HB hg;replace HB:=cO HB hb;clear hb hbox hg)|((with_reducible refine aA (N:=3) rfl ?_);refine au (by rfl) (N:=3) (by rfl) (cs:=#[U Z aI,U Z aG,U Z bn,U Z bq]) (t:=31) fG ?_;intro a1s hg w8 hbox hb;have aaO:=aa.mk (hbox);have a1t:=bS HB hg;have a1u:=bS HB hg;have ajQ:=eQ ML hg;have ajR:=eT ML hg;replace ML:=aX ML hb;replace HB:=cO HB hb;clear hb hbox hg)|((with_reducible refine aA (N:=4) rfl ?_);refine au (by rfl) (N:=4) (by rfl) (cs:=#[U Z 0,U Z 0,U Z 0,U Z 0]) (t:=31) fG ?_;intro aBs hg w9 hbox hb;have awh:=aa.mk (hbox);have a1v:=bS HB hg;have a1w:=bS HB hg;have ajS:=eQ ML hg;have ajT:=eT ML hg;have ajU:=eQ aaO hg;have ajV:=eT aaO hg;replace ML:=aX ML hb;replace aaO:=aX aaO hb;replace HB:=cO HB hb;clear hb hbox hg;have VL:=ajQ.out;have VM:=ajR.out;have VN:=ajS.out;have VO:=ajT.out;obtain ⟨o6,o7,JD,JE,o8,o9,JF,JG⟩:=jc ML.out;have aaP:=ajU.out;have aaQ:=ajV.out;obtain ⟨Aq,Ar,GL,GM,Au,Av,GN,GQ⟩:=jc aaO.out;obtain ⟨oL,oM,sP,sQ,oN,oO,sS,sU⟩:=jc awh.out))
 refine bodyPost_ret (results_cell_row rfl _ _ aBs 31 #[U Z Dn,U Z Rk,U Z ji5,U Z ji6] (0,0) _ rfl (by (with_reducible repeat (first|refine av ?_ _|refine ag ?_|refine af ?_ _));refine aN (cs:=#[U Z Dn,U Z Rk,U Z ji5,U Z 0]) ?_ 3 _ rfl;(with_reducible repeat (first|refine av ?_ _|refine ag ?_|refine af ?_ _));refine aN (cs:=#[U Z Dn,U Z Rk,U Z 0,U Z 0]) ?_ 2 _ rfl;(with_reducible repeat (first|refine av ?_ _|refine ag ?_|refine af ?_ _));refine aN (cs:=#[U Z Dn,U Z 0,U Z 0,U Z 0]) ?_ 1 _ rfl;(with_reducible repeat (first|refine av ?_ _|refine ag ?_|refine af ?_ _));refine aN (cs:=#[U Z 0,U Z 0,U Z 0,U Z 0]) ?_ 0 _ rfl;(with_reducible repeat (first|refine av ?_ _|refine ag ?_|refine af ?_ _));exact awh.out) Try.underlying31 rfl aM) rfl ?_
 exact ⟨by first|rfl|(simp [kX,kY] <;> rfl)|(simp only [← Jb,← Pb,← TQ,← apX];first|rfl|(simp [kX,kY] <;> rfl))|(simp [*,kX,kY] <;> rfl),gL⟩
end Go.Proofs.Ytmhaiihjfgfaoaa.Pr
end
