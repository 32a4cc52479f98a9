import Derived.Test.YtmhaiihjfgfaoaaGzGliderReaches3
import Derived.Test.YtmhaiihjfgfaoaaGzGliderReaches6
import Derived.Test.YtmhaiihjfgfaoaaGzGliderReaches12
open Go.Value renaming int → U
open Go.IntKind renaming i64 → Z
open Bool renaming true → ab, false → ac
section
namespace Go.Proofs.Ytmhaiihjfgfaoaa.Gl
open Go.RowKit Go.Shelf Go.Proofs.YtmhaiihjfgfaoaaW.PrintWords Go.Proofs.YtmhaiihjfgfaoaaW.PrintLast Go.Proofs.YtmhaiihjfgfaoaaW.PrintMore Go.Proofs.Ytmhaiihjfgfaoaa.Pr Go.Proofs.YtmhaiihjfgfaoaaW.Round
set_option linter.unusedVariables false
set_option linter.unusedSimpArgs false
attribute [local go_sem] eD eF fD fE eG
attribute [local go_sem] Oper.semAt_some
def ajf (n:Nat) (h:Nat):List Hm:=(List.range n).map fun j:Nat=>(⟨(h:Int),(j:Int)⟩:Hm)
def WM (n m:Nat):List Hm:=(List.range m).flatMap fun r:Nat=>ajf n r
def wJ (n q j:Nat):List Hm:=WM n q++ajf j q
theorem uP (n q:Nat):wJ n q 0 = WM n q:=by unfold wJ ajf;simp
theorem BP (n q j:Nat):wJ n q (j+1) = wJ n q j++[(⟨(q:Int),(j:Int)⟩:Hm)]:=by
 unfold wJ ajf
 rw [List.range_succ,List.map_append,List.map_singleton,List.append_assoc]
theorem Et (n q:Nat):WM n (q+1) = wJ n q n:=by
 unfold wJ WM
 rw [List.range_succ,List.flatMap_append,List.flatMap_singleton]
theorem YO (n:Nat):∀ (d q:Nat),WM n q <+:WM n (q+d)
 |0,q=>List.prefix_refl _
 |d+1,q=>by
  refine (YO n d q).trans ?_
  rw [show q+(d+1) = (q+d)+1 by omega,Et]
  exact List.prefix_append _ _
theorem Uf {n m q j:Nat} (hq:q < m) (hj:j≤n):wJ n q j <+:WM n m:=by
 have h1:wJ n q j <+:wJ n q n:=by
  unfold wJ
  refine (List.prefix_append_right_inj _).2 ?_
  unfold ajf
  refine List.IsPrefix.map _ ?_
  rw [show n = j+(n - j) by omega,List.range_add]
  exact List.prefix_append _ _
 rw [← Et] at h1
 have h2:=YO n (m - (q+1)) (q+1)
 rw [show q+1+(m - (q+1)) = m by omega] at h2
 exact h1.trans h2
abbrev WN (s:j3):={ c:Hm // (0≤c.f0∧c.f0≤8)∧0≤c.f1∧c.f1 < s.layers }
def MX (s:j3):List Hm:=WM s.layers.toNat 9
def arb (s:j3) (xs:List (WN s)):Prop:=xs.map Subtype.val = MX s
def av8 (s:j3) (xs:List (WN s)):Prop:=xs.map Subtype.val <+:MX s
set_option maxHeartbeats 1000000 in
theorem Ps (b:Nat) (w:World):Calls Try.prog 100 #[.pointer (some ⟨b,0,none⟩)] w fun e w'=>e = .returned (.func (.func 129) #[] #[.pointer (some ⟨w.heap.size,0,none⟩)])∧w' = w.alloc (.cells #[.pointer (some ⟨b,0,none⟩)] 104):=by
 go_enter Try.func100,Try.ntmps100
 go_wp2
 go_ret
 exact ⟨rfl,rfl⟩
def aPl (w0:World) (bp b:Nat) (W:World):Prop:=Below w0.heap.size w0 W∧eT W bp #[.pointer (some ⟨b,0,none⟩)] 104
set_option maxRecDepth 100000 in
set_option maxHeartbeats 4000000 in
theorem Pt (n:Nat) (hn:1≤n) (l bp:Nat) (b:Nat) (s:j3) (v:nz) (En:World→Prop) (hEn:∀ W,En W→jo W b s v∧eT W bp #[.pointer (some ⟨b,0,none⟩)] 104) (hS:Dy s) (Kp:World→World→Prop) (hKp:∀ A B,Kp A B→En A→En B) (J Jx:List (WN s)→World→Prop)
 (hY:∀ pre c W,J pre W→pre.length < (MX s).length→YieldAt Fence.wide (n - 1) Try.prog l #[.agg #[U Z c.1.f0,U Z c.1.f1]] W fun e W' =>
  (e = .returned (.bool true)∧J (pre++[c]) W'∧Kp W W')∨(e = .returned (.bool false)∧Jx (pre++[c]) W'))
 (W:World) (hE:En W) (h0:J [] W):
 CallsIn Fence.wide n Try.prog 129 #[.func (.yield l) #[] #[],.pointer (some ⟨bp,0,none⟩)] W fun e W'=>(∃ v,e = .returned v)∧
  ((∃ xs,arb s xs∧J xs W')∨(∃ pre,av8 s pre∧Jx pre W')):=by
 have SH:=Try.underlying33
 have hla:=hS.layers
 have HAll:Hid (MX s = WM s.layers.toNat 9):=Lib.hid rfl
 refine callsIn_of_wp Try.func129 rfl trivial ?_ rfl
 simp only [Try.ntmps129,List.size_toArray,List.length_cons,List.length_nil,Nat.reduceAdd,Nat.reduceSub,Array.replicate_succ,Array.replicate_zero,List.push_toArray,List.append_toArray,List.nil_append,List.cons_append]
 gi_wp2
 gi_loopw [5] (fun i wr=>∃ (q:Nat) (pre:List (WN s)),q≤9∧i = U Z (q:Int)∧Hid (pre.map Subtype.val = wJ s.layers.toNat q 0)∧En wr∧J pre wr) (fun i _=>(9 - intOf i).toNat)
 case atStart=>exact ⟨0,[],Nat.zero_le _,rfl,Lib.hid (by rw [uP];rfl),hE,h0⟩
 case round =>
  clear hE h0
  obtain ⟨q,pre,hq,rfl,HP,hE,hJs⟩:=hrel
  obtain ⟨⟨A7,c7,A8,c8,mT,_⟩,mP⟩:=hEn _ hE
  have cP:=(af mP 0).trans rfl
  have cT:=(af mT 5).trans rfl
  clear mT mP
  by_cases hlt:(q:Int) < 9
  ·gi_wp2
   clear cP cT
   gi_loopw [13] (fun i wr2=>∃ (j:Nat) (OA:List (WN s)),j≤s.layers.toNat∧i = U Z (j:Int)∧Hid (OA.map Subtype.val = wJ s.layers.toNat q j)∧En wr2∧J OA wr2) (fun i _=>(s.layers - intOf i).toNat)
   case atStart=>exact ⟨0,pre,Nat.zero_le _,rfl,HP,hE,hJs⟩
   case round =>
    clear hE hJs
    obtain ⟨j,OA,hj,rfl,HQ,hE,hJ2⟩:=hrel
    by_cases hjk:(j:Int) < s.layers
    ·have hlen:OA.length < (MX s).length:=by
      have h1:=Uf (n:=s.layers.toNat) (m:=9) (show q < 9 by omega) (show j+1≤s.layers.toNat by omega)
      have h2:=h1.length_le
      rw [BP,← HQ.out,← HAll.out] at h2
      simp at h2
      omega
     obtain ⟨fn,tmps,assign,body,hy,hR⟩:=hY OA ⟨⟨(q:Int),(j:Int)⟩,⟨by dsimp only;omega,by dsimp only;omega⟩,by dsimp only;omega,hjk⟩ _ hJ2 hlen
     dsimp only at hy
     gi_wp2
     refine hR.mono ?_
     rintro e W3 (⟨rfl,hJ3,hk3⟩|⟨rfl,hJx3⟩)
     ·have hE3:=hKp _ _ hk3 hE
      clear hk3 hE
      gi_wp2
      go_roundw
      case rel=>exact ⟨j+1,_,by omega,by simp,Lib.hid (by rw [List.map_append,HQ.out,BP];rfl),hE3,hJ3⟩
      case measure=>simp [intOf];omega
     ·gi_wp2
      refine bodyPost_ret (results_none rfl _ _ _) rfl ?_
      refine ⟨⟨_,rfl⟩,.inr ⟨_,?_,hJx3⟩⟩
      show List.map Subtype.val _ <+:_
      rw [List.map_append,HQ.out,List.map_singleton,← BP,HAll.out]
      exact Uf (by omega) (by omega)
    ·obtain rfl:j = s.layers.toNat:=by omega
     gi_wp2
     go_roundw
     case rel=>exact ⟨q+1,OA,by omega,by simp,Lib.hid (by rw [HQ.out,uP,← Et]),hE,hJ2⟩
     case measure=>simp [intOf];omega
  ·obtain rfl:q = 9:=by omega
   gi_wp2
   go_end0
   exact ⟨⟨_,rfl⟩,.inl ⟨pre,by unfold arb;rw [HAll.out,HP.out,uP],hJs⟩⟩
end Go.Proofs.Ytmhaiihjfgfaoaa.Gl
end
section
namespace Go.Proofs.Ytmhaiihjfgfaoaa.Gl
open Go.RowKit Go.Shelf Go.Proofs.YtmhaiihjfgfaoaaW.PrintWords Go.Proofs.YtmhaiihjfgfaoaaW.PrintLast Go.Proofs.YtmhaiihjfgfaoaaW.PrintMore Go.Proofs.Ytmhaiihjfgfaoaa.Pr Go.Proofs.YtmhaiihjfgfaoaaW.Round
set_option linter.unusedVariables false
set_option linter.unusedSimpArgs false
attribute [local go_sem] eD eF fD fE eG
end Go.Proofs.Ytmhaiihjfgfaoaa.Gl
end
section
namespace Go.Proofs.Ytmhaiihjfgfaoaa.Gl
open Go.RowKit Go.Shelf Go.Proofs.YtmhaiihjfgfaoaaW.PrintWords Go.Proofs.YtmhaiihjfgfaoaaW.PrintLast Go.Proofs.YtmhaiihjfgfaoaaW.PrintMore Go.Proofs.Ytmhaiihjfgfaoaa.Pr Go.Proofs.YtmhaiihjfgfaoaaW.Round
set_option linter.unusedVariables false
set_option linter.unusedSimpArgs false
attribute [local go_sem] eD eF fD fE eG
attribute [local go_sem] Oper.semAt_some
theorem YP {s:j3} {v:nz} {x:dO} {t hd layer:Int} (hS:ER s) (hV:wO v) (hx:kG x) (hr:ig s v x t = 0):kG (kP s v x (dQ s v x) t hd layer):=by
 obtain ⟨_,_,⟨a0,a1⟩,b0,b1⟩:=D7 hS.n hV hx hr
 obtain ⟨_,o1,o2⟩:=hx
 have hdv:=hV.dive
 have hsp:=hV.speed
 have hdi:=PX hd
 have hai:=aa6 hS.cb (dQ s v x) layer t (t+v.dive)
 unfold kP oZ kG EN Hy Xw
 dsimp only
 generalize SB s (dQ s v x) layer t (t+v.dive) = y at*
 generalize G9 hd = d at*
 obtain ⟨⟨y0,y1⟩,⟨y2,y3⟩,⟨y4,y5⟩,⟨y6,y7⟩,y8,y9⟩:=hai
 have m0:=lV (a:=d.1) (b:=v.speed) (m:=1000) (n:=5000) hdi.1.1 hdi.1.2 hsp.1 hsp.2 (by omega)
 have m1:=lV (a:=d.2) (b:=v.speed) (m:=1000) (n:=5000) hdi.2.1 hdi.2.2 hsp.1 hsp.2 (by omega)
 generalize d.1*v.speed = e at*
 generalize d.2*v.speed = f at*
 have n0:=lV (a:=e+1000*y.f0.f0) (b:=v.dive) (m:=10000000) (n:=131072) (by omega) (by omega) (by omega) (by omega) (by omega)
 have n1:=lV (a:=e+1000*y.f0.f1) (b:=v.dive) (m:=10000000) (n:=131072) (by omega) (by omega) (by omega) (by omega) (by omega)
 have n2:=lV (a:=f+1000*y.f1.f0) (b:=v.dive) (m:=10000000) (n:=131072) (by omega) (by omega) (by omega) (by omega) (by omega)
 have n3:=lV (a:=f+1000*y.f1.f1) (b:=v.dive) (m:=10000000) (n:=131072) (by omega) (by omega) (by omega) (by omega) (by omega)
 have k0:=Int.mul_le_mul_of_nonneg_right (show e+1000*y.f0.f0≤e+1000*y.f0.f1 by omega) (show 0≤v.dive by omega)
 have k1:=Int.mul_le_mul_of_nonneg_right (show f+1000*y.f1.f0≤f+1000*y.f1.f1 by omega) (show 0≤v.dive by omega)
 generalize (e+1000*y.f0.f0)*v.dive = A at*
 generalize (e+1000*y.f0.f1)*v.dive = B at*
 generalize (f+1000*y.f1.f0)*v.dive = C at*
 generalize (f+1000*y.f1.f1)*v.dive = E at*
 clear m0 m1 hdi hdv hsp hr
 omega
theorem ajg {a b:dO} (ha:kG a) (hb:kG b):kG (oJ a b):=by
 unfold kG EN at*
 unfold oJ
 dsimp only
 omega
def qK (s:j3) (v:nz) (x g:dO) (t:Int) (A:dO) (l:List Hm):dO:=l.foldl (fun a c=>oJ a (kP s v x g t c.f0 c.f1)) A
theorem RQ (s:j3) (v:nz) (x g:dO) (t:Int) (A:dO) (l:List Hm) (c:Hm):qK s v x g t A (l++[c]) = oJ (qK s v x g t A l) (kP s v x g t c.f0 c.f1):=by unfold qK;rw [List.foldl_append];rfl
def uQ (s:j3) (v:nz) (x:dO) (t:Int):dO:=qK s v x (dQ s v x) t (kP s v x (dQ s v x) t 0 0) (MX s)
theorem YQ {s:j3} {v:nz} {x:dO} {t:Int} (hS:ER s) (hV:wO v) (hx:kG x) (hr:ig s v x t = 0):∀ (l:List Hm) (A:dO),kG A→kG (qK s v x (dQ s v x) t A l)
 |[],A,h=>h
 |c :: l,A,h=>YQ hS hV hx hr l _ (ajg h (YP hS hV hx hr))
theorem YR {s:j3} {v:nz} {x:dO} {t:Int} (hS:ER s) (hV:wO v) (hx:kG x) (hr:ig s v x t = 0):kG (uQ s v x t):=YQ hS hV hx hr _ _ (YP hS hV hx hr)
def iP (s:j3) (v:nz):Nat→dO→Int→List dO→List dO × Int
 |0,_,_,out=>(out,0)
 |n+1,x,t,out=>if ig s v x t≠0 then ([],ig s v x t) else iP s v n (uQ s v x t) (t+v.dive) (out++[uQ s v x t])
def RS (R:List dO × Int) (w:World) (e:Ending) (w':World):Prop:=∃ Vn:Value,e = .returned (.tuple #[Vn,U Z R.2])∧Kd.R Iy 31 w' w.heap.size (fun _=>True) Vn R.1∧Below w.heap.size w w'
def Tq (w:World) (bp b:Nat) (A B:World):Prop:=Below w.heap.size A B∧(eT A bp #[.pointer (some ⟨b,0,none⟩)] 104→eT B bp #[.pointer (some ⟨b,0,none⟩)] 104)
theorem Tq.trans {w:World} {bp b:Nat} {A B C:World} (h:Tq w bp b A B) (k:Tq w bp b B C):Tq w bp b A C:=⟨h.1.trans k.1,fun q=>k.2 (h.2 q)⟩
theorem Tq.put {w W0:World} {bp b:Nat} (hw:w.heap.size≤W0.heap.size) (hp:bp < W0.heap.size) (W:World) (l:Nat) (o o':Obj) (hl:W0.heap.size≤l) (h:W.heap[l]? = some o) (h1:o.isCells = false) (h2:o.isWalk = false):Tq w bp b W (W.putObj l o') :=
 ⟨belowK_b hw W l o o' hl h h1 h2,fun q=>(World.putObj_heap_other (by omega)).trans q⟩
theorem Tq.below {w:World} {bp b:Nat} {A B:World} (hw:w.heap.size≤A.heap.size) (h:Below A.heap.size A B):Tq w bp b A B:=⟨h.mono hw,fun q=>eT.zZ q h⟩
theorem Tq.set {w:World} {bp b:Nat} {A B:World} (h:Tq w bp b A B) {p:Addr} (hp:w.heap.size≤p.block) (h1:bp≠p.block) (u:Value):Tq w bp b A (B.setCell p u):=⟨h.1.setCell hp u,fun q=>aj (h.2 q) h1 u⟩
theorem Ug {α:Type} {d:Kd α} {e base:Nat} {ok:Nat→Prop} {v:Value} {xs:List α} {X Y:World} (h:d.R e X base ok v xs) (hm:∀ k c t f,k < X.heap.size→X.heap[k]? = some (.cells c t f)→Y.heap[k]? = X.heap[k]?):d.R e Y base ok v xs :=
 Kd.jC (Kd.ZF (Kd.xV h) (fun k hk hs=>by
  obtain ⟨_,_,_,q,_,cells,hc⟩:=hk
  exact hm k _ _ _ hs hc)) (fun k hk=>hk.1)
theorem agd {β α:Type} (d:Kd α) (e base:Nat) (ok:Nat→Prop) (v:Value) (xs:List α) (B:Nat):OwnFrom B (fun (_:β) W=>d.R e W base ok v xs):=fun s X Y row hs hg hr =>
 Ug hs (fun k c t f hk hc=>hg.block k hk (fun e_=>by
  obtain ⟨_,o_,ho,hn⟩:=hr k e_.symm
  rw [hc] at ho
  cases ho
  cases hn))
theorem av9 {α:Type} {d:Kd α} {e base:Nat} {ok:Nat→Prop} {v:Value} {xs:List α} {X:World} (h:d.R e X base ok v xs) {D_:Nat} {q:Option (List Deferred)} (hD:X.heap[D_]? = some (.deferred q)) (o_:Obj):d.R e (X.putObj D_ o_) base ok v xs :=
 Ug h (fun k c t f hk hc=>World.putObj_heap_other (fun e_=>by
  rw [← e_] at hD
  rw [hc] at hD
  cases hD))
theorem Marks.grown {X Y:World} {B:Nat} {Ds:List Nat} {row:Option Nat} (h:Marks X B Ds) (hg:X.grownBy Y row) (hne:∀ D_ ∈ Ds,some D_≠row):Marks Y B Ds :=
 ⟨h.1,fun D_ hD=>⟨(h.2 D_ hD).1,(hg.block D_ (Array.getElem?_eq_some_iff.1 (h.2 D_ hD).2).1 (hne D_ hD)).trans (h.2 D_ hD).2⟩⟩
set_option maxRecDepth 100000 in
set_option maxHeartbeats 16000000 in
theorem Uh (b:Nat) (s:j3) (v:nz) (x:dO) (t:Int) (n:Nat) (w:World) (hT:jo w b s v) (hS:ER s) (hV:wO v) (hx:kG x) (ht0:0≤t) (ht1:t≤1073741824) (hn:n≤64):
 Calls Try.prog 98 #[.pointer (some ⟨b,0,none⟩),.agg #[U Z x.f0.f0,U Z x.f0.f1,U Z x.f1.f0,U Z x.f1.f1],U Z t,U Z (n:Int)] w (RS (iP s v n x t []) w):=by
 have oP:=Try.underlying31
 have SH:=Try.underlying33
 have oo:=Try.underlying27
 refine (callsIn_wide (n:=7)).1 ?_
 refine callsIn_of_wp_marks Try.func98 rfl trivial ?_ rfl
 simp only [Try.ntmps98,List.size_toArray,List.length_cons,List.length_nil,Nat.reduceAdd,Nat.reduceSub,Array.replicate_succ,Array.replicate_zero,List.push_toArray,List.append_toArray,List.nil_append,List.cons_append]
 gi_wp2_with fail
 have m4:eT (((w.alloc (.cells #[.pointer (some ⟨b,0,none⟩)] 104)).alloc (.cells #[U Z x.f0.f0,U Z x.f0.f1,U Z x.f1.f0,U Z x.f1.f1] 31)).alloc (.cells #[U Z t] 2)) (w.heap.size) #[.pointer (some ⟨b,0,none⟩)] 104:=(ae (ae awc _) _)
 have m5:eT (((w.alloc (.cells #[.pointer (some ⟨b,0,none⟩)] 104)).alloc (.cells #[U Z x.f0.f0,U Z x.f0.f1,U Z x.f1.f0,U Z x.f1.f1] 31)).alloc (.cells #[U Z t] 2)) (w.heap.size+1) #[U Z x.f0.f0,U Z x.f0.f1,U Z x.f1.f0,U Z x.f1.f1] 31:=(ae awd _)
 have m6:eT (((w.alloc (.cells #[.pointer (some ⟨b,0,none⟩)] 104)).alloc (.cells #[U Z x.f0.f0,U Z x.f0.f1,U Z x.f1.f0,U Z x.f1.f1] 31)).alloc (.cells #[U Z t] 2)) (w.heap.size+1+1) #[U Z t] 2:=(by have h_:=eP ((w.alloc (.cells #[.pointer (some ⟨b,0,none⟩)] 104)).alloc (.cells #[U Z x.f0.f0,U Z x.f0.f1,U Z x.f1.f0,U Z x.f1.f1] 31)) (.cells #[U Z t] 2);first|exact h_|(simp only [World.size_alloc] at h_;exact h_))
 have mB:Below w.heap.size w (((w.alloc (.cells #[.pointer (some ⟨b,0,none⟩)] 104)).alloc (.cells #[U Z x.f0.f0,U Z x.f0.f1,U Z x.f1.f0,U Z x.f1.f1] 31)).alloc (.cells #[U Z t] 2)):=(aT (aT (aT (Below.refl w.heap.size w) _) _) _)
 have jS:w.heap.size≤w.heap.size:=Nat.le_refl _
 generalize qL:(((w.alloc (.cells #[.pointer (some ⟨b,0,none⟩)] 104)).alloc (.cells #[U Z x.f0.f0,U Z x.f0.f1,U Z x.f1.f0,U Z x.f1.f1] 31)).alloc (.cells #[U Z t] 2)) = W1 at m4 m5 m6 mB ⊢
 clear qL
 generalize hg4:w.heap.size = g4 at m4 m5 m6 ⊢
 have hG4:w.heap.size≤g4:=by omega
 generalize hg5:g4+1 = g5 at m5 m6 ⊢
 have pV:g4≠g5:=by omega
 have UO:g5≠g4:=pV.symm
 have hG5:w.heap.size≤g5:=by omega
 generalize UC:g5+1 = g6 at m6 ⊢
 have zS:g4≠g6:=by omega
 have o7:g5≠g6:=by omega
 have UQ:g6≠g4:=zS.symm
 have lC:g6≠g5:=o7.symm
 have SC:w.heap.size≤g6:=by omega
 clear jS
 try clear UC
 try clear hg5
 try clear hg4
 have wG:w.heap.size≤W1.heap.size:=mB.size
 skip
 refine wpIn_loop (fun a W=>∃ (k:Nat) (X:dO) (T:Int) (out:List dO) (v_:Value) (Ds:List Nat) (u_:Nat→Value),a = { tmps:=#[(u_ 0),(u_ 1),(u_ 2),(u_ 3),.pointer (some ⟨g4,0,none⟩),.pointer (some ⟨g5,0,none⟩),.pointer (some ⟨g6,0,none⟩),(u_ 7),(u_ 8),(u_ 9),v_,(u_ 11),(u_ 12),(u_ 13),(u_ 14),U Z (n:Int),U Z (k:Int),(u_ 17),(u_ 18),(u_ 19),(u_ 20),(u_ 21),(u_ 22),(u_ 23),(u_ 24),(u_ 25),(u_ 26),(u_ 27),(u_ 28),(u_ 29),(u_ 30),(u_ 31),(u_ 32),(u_ 33),(u_ 34),(u_ 35),(u_ 36),(u_ 37),(u_ 38),(u_ 39),(u_ 40),(u_ 41),(u_ 42),(u_ 43),(u_ 44),(u_ 45),(u_ 46),(u_ 47),(u_ 48),(u_ 49),(u_ 50),(u_ 51),(u_ 52),(u_ 53),(u_ 54),(u_ 55),(u_ 56),(u_ 57),(u_ 58)],defers:=Ds.map mark }∧k≤n∧Hid (iP s v n x t [] = iP s v (n - k) X T out)∧Hid (out.length = k∧kG X∧0≤T∧T≤1073741824+(k:Int)*131072)∧Marks W w.heap.size Ds∧eT W g4 #[.pointer (some ⟨b,0,none⟩)] 104∧eT W g5 #[U Z X.f0.f0,U Z X.f0.f1,U Z X.f1.f0,U Z X.f1.f1] 31∧eT W g6 #[U Z T] 2∧Kd.R Iy 31 W w.heap.size (fun q=>q≠g5) v_ out∧Below w.heap.size w W) (fun a _=>((n:Int) - intOf (a.tmps.getD 16 undef)).toNat) ⟨0,x,t,[],.slice none 0 0,[],(fun k=>(#[.pointer (some ⟨b,0,none⟩),.agg #[U Z x.f0.f0,U Z x.f0.f1,U Z x.f1.f0,U Z x.f1.f1],U Z t,U Z (n:Int),.pointer (some ⟨g4,0,none⟩),.pointer (some ⟨g5,0,none⟩),.pointer (some ⟨g6,0,none⟩),undef,.slice none 0 0,U Z 0,.slice none 0 0,undef,undef,undef,undef,U Z (n:Int),U Z 0,undef,undef,undef,undef,undef,undef,undef,undef,undef,undef,undef,undef,undef,undef,undef,undef,undef,undef,undef,undef,undef,undef,undef,undef,undef,undef,undef,undef,undef,undef,undef,undef,undef,undef,undef,undef,undef,undef,undef,undef,undef,undef]:Array Value).getD k undef),rfl,Nat.zero_le _,Lib.hid rfl,Lib.hid ⟨rfl,hx,ht0,by omega⟩,Marks.nil _ _,m4,m5,m6,Kd.ag5 _ _ _ _ _,mB⟩ ?_
 clear m4 m5 m6 mB hx ht0 ht1
 rintro a_ W ⟨k,X,T,out,v_,Ds,u_,rfl,hk,HR,HQ,hM,m4,m5,m6,HO,mB⟩
 have arc:w.heap.size≤W.heap.size:=mB.size
 skip
 by_cases hlt:k < n
 case neg =>
  obtain rfl:k = n:=by omega
  have HE:=HR.out
  rw [Nat.sub_self] at HE
  have HE2:Hid (iP s v k x t [] = (out,0)):=Lib.hid HE
  clear HE HR HQ
  have hnl:¬ ((k:Int) < (k:Int)):=by omega
  gi_wp2
  skip
  exact oK (fun W_=>Kd.R Iy 31 W_ w.heap.size (fun q=>q≠g5) v_ out∧Below w.heap.size w W_) (fun W_ D_ h hB hD=>⟨av9 h.1 hD _,h.2.trans (belowK_b (w:=w) (Nat.le_refl _) W_ D_ _ _ hB hD rfl rfl)⟩) (fun W_ h=>⟨_,results_tmp2 rfl _ _ _,_,by rw [HE2.out];rfl,by rw [HE2.out];exact Kd.jC h.1 (fun _ _=>trivial),h.2⟩) Ds _ hM ⟨HO,mB⟩
 case pos =>
  obtain ⟨hol,hX,hT0,hT1⟩:=HQ.out
  have hdv:=hV.dive
  have HDV:=Lib.hid hdv
  have HR2:Hid (iP s v n x t [] = if ig s v X T≠0 then ([],ig s v X T) else iP s v (n - (k+1)) (uQ s v X T) (T+v.dive) (out++[uQ s v X T])):=Lib.hid (by rw [HR.out,show n - k = (n - (k+1))+1 by omega];rfl)
  clear HR
  have hkk:((k:Int) < (n:Int)):=by omega
  have kR:=fun W (h:jo W b s v)=>Ny b s v X T W h hS.n hV hX.1 hT0 (by omega)
  have hok:=fun h=>YR (t:=T) hS hV hX h
  have hro:=fun h=>D7 (t:=T) hS.n hV hX h
  have HV:Hid (ig s v X T = 0→wS s v X T = dQ s v X):=Lib.hid (fun h=>if_pos h)
  have HXS:Hid (kG X):=Lib.hid hX
  clear hdv hX
  have WO:=(af m4 0).trans rfl
  obtain ⟨D8,ES,NA,NB⟩:=nV m5
  have DF:=(af m6 0).trans rfl
  gi_wp2_with fail
  skip
  clear hkk WO D8 ES NA NB DF
  skip
  have hcon:=kR W (hT.below mB)
  refine ⟨trivial,(callsIn_wide.2 hcon).mono ?_⟩
  clear hcon
  rintro e W2 ⟨rfl,hb⟩
  replace HO:=Kd.lD HO hb
  replace hM:=hM.below hb
  replace m4:=av m4 hb
  replace m5:=av m5 hb
  replace m6:=av m6 hb
  replace mB:=bO mB hb
  clear hb
  have sO:w.heap.size≤W2.heap.size:=mB.size
  clear kR
  generalize ig s v X T = E at*
  generalize wS s v X T = G at*
  by_cases hE:E = 0
  case neg =>
   have HZ:=Lib.hid (HR2.out.trans (if_pos hE))
   have hd1:(E == 0) = false:=beq_eq_false_iff_ne.2 hE
   have hd2:(E != 0) = true:=by rw [bne,hd1];rfl
   clear hE HR2 hok hro
   gi_wp2
   skip
   exact oK (fun W_=>Below w.heap.size w W_) (fun W_ D_ h hB hD=>h.trans (belowK_b (w:=w) (Nat.le_refl _) W_ D_ _ _ hB hD rfl rfl)) (fun W_ h=>⟨_,results_tmp2 rfl _ _ _,_,o6,Tt,h⟩) Ds _ (hM.below (aT (Below.refl _ _) _)) (aT mB _)
  case pos =>
   have HR3:=Lib.hid (HR2.out.trans (if_neg (fun h=>h hE)))
   have hX2:=hok hE
   obtain ⟨hin,⟨_,htd⟩,_⟩:=hro hE
   have Zy:=Lib.hid hX2
   have hG:=HV.out hE
   clear HR2 hok hro HV hX2
   subst hE
   subst hG
   have hla:=hS.n.layers
   have kE:=fun W hd layer (h:jo W b s v) (h0:0≤hd) (h1:hd≤8) (h2:0≤layer) (h3:layer < s.layers)=>Ra b s v X (dQ s v X) T hd layer W h hS.n hV hS.cu hS.cb HXS.out.1 hin hT0 htd h0 h1 h2 h3
   have HST:Hid (uQ s v X T = qK s v X (dQ s v X) T (kP s v X (dQ s v X) T 0 0) (MX s)):=Lib.hid rfl
   generalize uQ s v X T = H at*
   generalize dQ s v X = G at*
   have WO:∀ o_,(W2.alloc o_).cell? ⟨g4,0,none⟩ = some (.pointer (some ⟨b,0,none⟩)):=fun o_=>(af (ae m4 o_) 0).trans rfl
   have D8:∀ o_,(W2.alloc o_).cell? ⟨g5,0,none⟩ = some (U Z X.f0.f0):=fun o_=>(af (ae m5 o_) 0).trans rfl
   have ES:∀ o_,(W2.alloc o_).cell? ⟨g5,1,none⟩ = some (U Z X.f0.f1):=fun o_=>(af (ae m5 o_) 1).trans rfl
   have NA:∀ o_,(W2.alloc o_).cell? ⟨g5,2,none⟩ = some (U Z X.f1.f0):=fun o_=>(af (ae m5 o_) 2).trans rfl
   have NB:∀ o_,(W2.alloc o_).cell? ⟨g5,3,none⟩ = some (U Z X.f1.f1):=fun o_=>(af (ae m5 o_) 3).trans rfl
   have DF:∀ o_,(W2.alloc o_).cell? ⟨g6,0,none⟩ = some (U Z T):=fun o_=>(af (ae m6 o_) 0).trans rfl
   gi_wp2_with fail
   clear WO D8 ES NA NB DF
   skip
   replace HO:=Kd.lD HO (aT (Below.refl W2.heap.size W2) (.cells #[U Z G.f0.f0,U Z G.f0.f1,U Z G.f1.f0,U Z G.f1.f1] 31))
   replace hM:=hM.below (aT (Below.refl W2.heap.size W2) (.cells #[U Z G.f0.f0,U Z G.f0.f1,U Z G.f1.f0,U Z G.f1.f1] 31))
   have aaM:=bP m4
   have Bo:=bP m5
   have wT:=bP m6
   have m11:eT (W2.alloc (.cells #[U Z G.f0.f0,U Z G.f0.f1,U Z G.f1.f0,U Z G.f1.f1] 31)) (W2.heap.size) #[U Z G.f0.f0,U Z G.f0.f1,U Z G.f1.f0,U Z G.f1.f1] 31:=axj
   replace m4:eT (W2.alloc (.cells #[U Z G.f0.f0,U Z G.f0.f1,U Z G.f1.f0,U Z G.f1.f1] 31)) g4 #[.pointer (some ⟨b,0,none⟩)] 104:=(ae m4 _)
   replace m5:eT (W2.alloc (.cells #[U Z G.f0.f0,U Z G.f0.f1,U Z G.f1.f0,U Z G.f1.f1] 31)) g5 #[U Z X.f0.f0,U Z X.f0.f1,U Z X.f1.f0,U Z X.f1.f1] 31:=(ae m5 _)
   replace m6:eT (W2.alloc (.cells #[U Z G.f0.f0,U Z G.f0.f1,U Z G.f1.f0,U Z G.f1.f1] 31)) g6 #[U Z T] 2:=(ae m6 _)
   replace mB:Below w.heap.size w (W2.alloc (.cells #[U Z G.f0.f0,U Z G.f0.f1,U Z G.f1.f0,U Z G.f1.f1] 31)):=(aT mB _)
   have jS:w.heap.size≤W2.heap.size:=sO
   generalize qL:(W2.alloc (.cells #[U Z G.f0.f0,U Z G.f0.f1,U Z G.f1.f0,U Z G.f1.f1] 31)) = W3 at m4 m5 m6 m11 mB HO hM ⊢
   clear qL
   generalize awe:W2.heap.size = g11 at m11 ⊢
   have aee:g4≠g11:=by omega
   have MZ:g5≠g11:=by omega
   have sS:g6≠g11:=by omega
   have ard:g11≠g4:=aee.symm
   have WQ:g11≠g5:=MZ.symm
   have WR:g11≠g6:=sS.symm
   have Xy:w.heap.size≤g11:=by omega
   clear jS aaM Bo wT
   try clear awe
   have Ha:w.heap.size≤W3.heap.size:=mB.size
   have hcon:=kE W3 0 0 (hT.below mB) (by omega) (by omega) (by omega) (by omega)
   refine ⟨trivial,(callsIn_wide.2 hcon).mono ?_⟩
   clear hcon
   rintro e W4 ⟨rfl,hb⟩
   replace HO:=Kd.lD HO hb
   replace hM:=hM.below hb
   replace m4:=av m4 hb
   replace m5:=av m5 hb
   replace m6:=av m6 hb
   replace m11:=av m11 hb
   replace mB:=bO mB hb
   clear hb
   have O3:w.heap.size≤W4.heap.size:=mB.size
   generalize kP s v X G T 0 0 = A at*
   have WO:∀ o_,(W4.alloc o_).cell? ⟨g4,0,none⟩ = some (.pointer (some ⟨b,0,none⟩)):=fun o_=>(af (ae m4 o_) 0).trans rfl
   have D8:∀ o_,(W4.alloc o_).cell? ⟨g5,0,none⟩ = some (U Z X.f0.f0):=fun o_=>(af (ae m5 o_) 0).trans rfl
   have ES:∀ o_,(W4.alloc o_).cell? ⟨g5,1,none⟩ = some (U Z X.f0.f1):=fun o_=>(af (ae m5 o_) 1).trans rfl
   have NA:∀ o_,(W4.alloc o_).cell? ⟨g5,2,none⟩ = some (U Z X.f1.f0):=fun o_=>(af (ae m5 o_) 2).trans rfl
   have NB:∀ o_,(W4.alloc o_).cell? ⟨g5,3,none⟩ = some (U Z X.f1.f1):=fun o_=>(af (ae m5 o_) 3).trans rfl
   have DF:∀ o_,(W4.alloc o_).cell? ⟨g6,0,none⟩ = some (U Z T):=fun o_=>(af (ae m6 o_) 0).trans rfl
   gi_wp2_with fail
   clear WO D8 ES NA NB DF
   replace HO:Kd.R Iy 31 W4 w.heap.size (fun q=>q≠g5∧q≠W4.heap.size) v_ out:=Kd.jC (Kd.xV HO) (fun q hq=>⟨hq.1,by have:=hq.2.2.1;omega⟩)
   replace HO:=Kd.lD HO (aT (Below.refl W4.heap.size W4) (.cells #[U Z A.f0.f0,U Z A.f0.f1,U Z A.f1.f0,U Z A.f1.f1] 31))
   replace hM:=hM.below (aT (Below.refl W4.heap.size W4) (.cells #[U Z A.f0.f0,U Z A.f0.f1,U Z A.f1.f0,U Z A.f1.f1] 31))
   have aaM:=bP m4
   have Bo:=bP m5
   have wT:=bP m6
   have Hz:=bP m11
   have m13:eT (W4.alloc (.cells #[U Z A.f0.f0,U Z A.f0.f1,U Z A.f1.f0,U Z A.f1.f1] 31)) (W4.heap.size) #[U Z A.f0.f0,U Z A.f0.f1,U Z A.f1.f0,U Z A.f1.f1] 31:=(by have h_:=eP W4 (.cells #[U Z A.f0.f0,U Z A.f0.f1,U Z A.f1.f0,U Z A.f1.f1] 31);first|exact h_|(simp only [World.size_alloc] at h_;exact h_))
   replace m4:eT (W4.alloc (.cells #[U Z A.f0.f0,U Z A.f0.f1,U Z A.f1.f0,U Z A.f1.f1] 31)) g4 #[.pointer (some ⟨b,0,none⟩)] 104:=(ae m4 _)
   replace m5:eT (W4.alloc (.cells #[U Z A.f0.f0,U Z A.f0.f1,U Z A.f1.f0,U Z A.f1.f1] 31)) g5 #[U Z X.f0.f0,U Z X.f0.f1,U Z X.f1.f0,U Z X.f1.f1] 31:=(ae m5 _)
   replace m6:eT (W4.alloc (.cells #[U Z A.f0.f0,U Z A.f0.f1,U Z A.f1.f0,U Z A.f1.f1] 31)) g6 #[U Z T] 2:=(ae m6 _)
   replace m11:eT (W4.alloc (.cells #[U Z A.f0.f0,U Z A.f0.f1,U Z A.f1.f0,U Z A.f1.f1] 31)) g11 #[U Z G.f0.f0,U Z G.f0.f1,U Z G.f1.f0,U Z G.f1.f1] 31:=(ae m11 _)
   replace mB:Below w.heap.size w (W4.alloc (.cells #[U Z A.f0.f0,U Z A.f0.f1,U Z A.f1.f0,U Z A.f1.f1] 31)):=(aT mB _)
   have jS:w.heap.size≤W4.heap.size:=O3
   generalize qL:(W4.alloc (.cells #[U Z A.f0.f0,U Z A.f0.f1,U Z A.f1.f0,U Z A.f1.f1] 31)) = W5 at m4 m5 m6 m11 m13 mB HO hM ⊢
   clear qL
   generalize aPn:W4.heap.size = g13 at m13 HO ⊢
   have Bb:g4≠g13:=by omega
   have zA:g5≠g13:=by omega
   have Bc:g6≠g13:=by omega
   have vY:g11≠g13:=by omega
   have arf:g13≠g4:=Bb.symm
   have nQ:g13≠g5:=zA.symm
   have arh:g13≠g6:=Bc.symm
   have ajh:g13≠g11:=vY.symm
   have YS:w.heap.size≤g13:=by omega
   clear jS aaM Bo wT Hz
   try clear aPn
   have Rj:w.heap.size≤W5.heap.size:=mB.size
   have hcon:=Ps b W5
   refine ⟨trivial,(callsIn_wide.2 hcon).mono ?_⟩
   clear hcon
   rintro e _ ⟨rfl,rfl⟩
   gi_wp2_with fail
   replace HO:=Kd.lD HO (aT (Below.refl W5.heap.size W5) (.cells #[.pointer (some ⟨b,0,none⟩)] 104))
   replace hM:=hM.below (aT (Below.refl W5.heap.size W5) (.cells #[.pointer (some ⟨b,0,none⟩)] 104))
   have aaM:=bP m4
   have Bo:=bP m5
   have wT:=bP m6
   have Hz:=bP m11
   have aEe:=bP m13
   have mP:eT (W5.alloc (.cells #[.pointer (some ⟨b,0,none⟩)] 104)) (W5.heap.size) #[.pointer (some ⟨b,0,none⟩)] 104:=(by have h_:=eP W5 (.cells #[.pointer (some ⟨b,0,none⟩)] 104);first|exact h_|(simp only [World.size_alloc] at h_;exact h_))
   replace m4:eT (W5.alloc (.cells #[.pointer (some ⟨b,0,none⟩)] 104)) g4 #[.pointer (some ⟨b,0,none⟩)] 104:=(ae m4 _)
   replace m5:eT (W5.alloc (.cells #[.pointer (some ⟨b,0,none⟩)] 104)) g5 #[U Z X.f0.f0,U Z X.f0.f1,U Z X.f1.f0,U Z X.f1.f1] 31:=(ae m5 _)
   replace m6:eT (W5.alloc (.cells #[.pointer (some ⟨b,0,none⟩)] 104)) g6 #[U Z T] 2:=(ae m6 _)
   replace m11:eT (W5.alloc (.cells #[.pointer (some ⟨b,0,none⟩)] 104)) g11 #[U Z G.f0.f0,U Z G.f0.f1,U Z G.f1.f0,U Z G.f1.f1] 31:=(ae m11 _)
   replace m13:eT (W5.alloc (.cells #[.pointer (some ⟨b,0,none⟩)] 104)) g13 #[U Z A.f0.f0,U Z A.f0.f1,U Z A.f1.f0,U Z A.f1.f1] 31:=(ae m13 _)
   replace mB:Below w.heap.size w (W5.alloc (.cells #[.pointer (some ⟨b,0,none⟩)] 104)):=(aT mB _)
   have jS:w.heap.size≤W5.heap.size:=Rj
   generalize qL:(W5.alloc (.cells #[.pointer (some ⟨b,0,none⟩)] 104)) = W0 at m4 m5 m6 m11 m13 mP mB HO hM ⊢
   clear qL
   generalize hgP:W5.heap.size = gP at mP ⊢
   have WS:g4≠gP:=by omega
   have OB:g5≠gP:=by omega
   have H9:g6≠gP:=by omega
   have M0:g11≠gP:=by omega
   have aef:g13≠gP:=by omega
   have aji:gP≠g4:=WS.symm
   have WT:gP≠g5:=OB.symm
   have RU:gP≠g6:=H9.symm
   have WU:gP≠g11:=M0.symm
   have Dm:gP≠g13:=aef.symm
   have hGP:w.heap.size≤gP:=by omega
   clear jS aaM Bo wT Hz aEe
   try clear hgP
   have BQ:w.heap.size≤W0.heap.size:=mB.size
   skip
   have hDs:∀ D_ ∈ Ds,D_ < W0.heap.size:=fun D_ h=>(Array.getElem?_eq_some_iff.1 (hM.2 D_ h).2).1
   have HN:Hid (g4≠g13∧g5≠g13∧g6≠g13∧g11≠g13∧gP≠g13∧g5≠g6∧g6≠g5∧g4≠g5∧g4≠g6):=Lib.hid ⟨Bb,zA,Bc,vY,Dm,o7,lC,pV,zS⟩
   try clear pV zS aee Bb
   try clear WS
   try clear UO o7 MZ zA
   try clear OB
   try clear UQ lC sS Bc
   try clear H9
   try clear ard WQ WR vY
   try clear M0
   try clear arf nQ arh ajh
   try clear aef
   try clear aji WT RU WU Dm
   refine wpIn_rangeFunc_ownH rfl (by omega) (gf:=129) (lb:=#[.pointer (some ⟨gP,0,none⟩)]) rfl trivial (enters_of Try.func129 aY rfl)
    (encs:=fun c:WN s=>#[.agg #[U Z c.1.f0,U Z c.1.f1]]) (Kp:=Tq w gP b) (S:=arb s) (Sp:=av8 s) (N:=(MX s).length) (w0:=W0)
    (fun l J Jx X_ hW hJ _ hY h0=>Pt 6 (by omega) l gP b s v (aPl w gP b) (fun W h=>⟨hT.below h.1,h.2⟩) hS.n (Tq w gP b) (fun A B h hE=>⟨hE.1.trans h.1,h.2 hE.2⟩) J Jx hY X_ ⟨bO mB hW,eT.zZ mP hW⟩ h0) Tq.trans (Tq.put BQ (bP mP)) (Below.refl _ _) (fun _=>rfl)
    (fun pre W=>eT W g4 #[.pointer (some ⟨b,0,none⟩)] 104∧eT W g5 #[U Z X.f0.f0,U Z X.f0.f1,U Z X.f1.f0,U Z X.f1.f1] 31∧eT W g6 #[U Z T] 2∧eT W g11 #[U Z G.f0.f0,U Z G.f0.f1,U Z G.f1.f0,U Z G.f1.f1] 31∧eT W g13 #[U Z (qK s v X G T A (pre.map Subtype.val)).f0.f0,U Z (qK s v X G T A (pre.map Subtype.val)).f0.f1,U Z (qK s v X G T A (pre.map Subtype.val)).f1.f0,U Z (qK s v X G T A (pre.map Subtype.val)).f1.f1] 31∧Kd.R Iy 31 W w.heap.size (fun q=>q≠g5∧q≠g13) v_ out∧Marks W w.heap.size Ds∧Below w.heap.size w W)
    (fun c pre W=>False)
    (OwnFrom.and (ib _ _ (fun _=>_) _) (OwnFrom.and (ib _ _ (fun _=>_) _) (OwnFrom.and (ib _ _ (fun _=>_) _) (OwnFrom.and (ib _ _ (fun _=>_) _) (OwnFrom.and (ib _ _ (fun pre:List (WN s)=>#[U Z (qK s v X G T A (pre.map Subtype.val)).f0.f0,U Z (qK s v X G T A (pre.map Subtype.val)).f0.f1,U Z (qK s v X G T A (pre.map Subtype.val)).f1.f0,U Z (qK s v X G T A (pre.map Subtype.val)).f1.f1]) _) (OwnFrom.and (agd _ _ _ _ _ _ _) (OwnFrom.and (DW _ _ Ds hDs) (ownFrom_below (by omega) (by omega)))))))))
    (fun c pre X Y row hs hg hr=>hs)
    ⟨m4,m5,m6,m11,m13,HO,hM,mB⟩
    (fun c a' W=>∃ (g14:Nat) (u_:Nat→Value),a' = { tmps:=#[(u_ 0),(u_ 1),(u_ 2),(u_ 3),.pointer (some ⟨g4,0,none⟩),.pointer (some ⟨g5,0,none⟩),.pointer (some ⟨g6,0,none⟩),(u_ 7),(u_ 8),(u_ 9),(u_ 10),.pointer (some ⟨g11,0,none⟩),(u_ 12),.pointer (some ⟨g13,0,none⟩),.pointer (some ⟨g14,0,none⟩),(u_ 15),(u_ 16),(u_ 17),(u_ 18),(u_ 19),(u_ 20),(u_ 21),(u_ 22),(u_ 23),(u_ 24),(u_ 25),(u_ 26),(u_ 27),(u_ 28),(u_ 29),(u_ 30),(u_ 31),(u_ 32),(u_ 33),(u_ 34),(u_ 35),(u_ 36),(u_ 37),(u_ 38),(u_ 39),(u_ 40),(u_ 41),(u_ 42),(u_ 43),(u_ 44),(u_ 45),(u_ 46),(u_ 47),(u_ 48),(u_ 49),(u_ 50),(u_ 51),(u_ 52),(u_ 53),(u_ 54),(u_ 55),(u_ 56),(u_ 57),(u_ 58)],defers:=[] }∧eT W g14 #[U Z c.1.f0,U Z c.1.f1] 33)
    (fun c a' s X Y row hs hg hr=>by obtain ⟨g14,u_,h1,h2⟩:=hs;exact ⟨g14,u_,h1,Gx h2 hg hr⟩) ?assign ?body ?done ?stop
   case assign =>
    rintro l pre c X_ K ⟨m4,m5,m6,m11,m13,HO,hM,mB⟩ hK
    gi_wp2
    skip
    have hb:=aT (Below.refl X_.heap.size X_) (.cells #[U Z c.1.f0,U Z c.1.f1] 33)
    exact hK _ _ (mh hb) (Tq.below mB.size hb) ⟨av m4 hb,av m5 hb,av m6 hb,av m11 hb,av m13 hb,Kd.lD HO hb,hM.below hb,bO mB hb⟩ ⟨X_.heap.size,(fun k_=>(#[(u_ 0),(u_ 1),(u_ 2),(u_ 3),.pointer (some ⟨g4,0,none⟩),.pointer (some ⟨g5,0,none⟩),.pointer (some ⟨g6,0,none⟩),(u_ 7),(u_ 8),(u_ 9),v_,.pointer (some ⟨g11,0,none⟩),U Z 0,.pointer (some ⟨g13,0,none⟩),.pointer (some ⟨X_.heap.size,0,none⟩),U Z (n:Int),U Z (k:Int),.bool true,.tuple #[.agg #[U Z G.f0.f0,U Z G.f0.f1,U Z G.f1.f0,U Z G.f1.f1],U Z 0],.pointer (some ⟨b,0,none⟩),.agg #[U Z X.f0.f0,U Z X.f0.f1,U Z X.f1.f0,U Z X.f1.f1],U Z T,.tuple #[.agg #[U Z G.f0.f0,U Z G.f0.f1,U Z G.f1.f0,U Z G.f1.f1],U Z 0],.agg #[U Z G.f0.f0,U Z G.f0.f1,U Z G.f1.f0,U Z G.f1.f1],U Z 0,U Z 0,.bool false,(u_ 27),.pointer (some ⟨b,0,none⟩),.agg #[U Z X.f0.f0,U Z X.f0.f1,U Z X.f1.f0,U Z X.f1.f1],.agg #[U Z G.f0.f0,U Z G.f0.f1,U Z G.f1.f0,U Z G.f1.f1],U Z T,.agg #[U Z 0,U Z 0],.agg #[U Z A.f0.f0,U Z A.f0.f1,U Z A.f1.f0,U Z A.f1.f1],.pointer (some ⟨b,0,none⟩),.func (.func 129) #[] #[.pointer (some ⟨gP,0,none⟩)],.agg #[U Z c.1.f0,U Z c.1.f1],(u_ 37),(u_ 38),(u_ 39),(u_ 40),(u_ 41),(u_ 42),(u_ 43),(u_ 44),(u_ 45),(u_ 46),(u_ 47),(u_ 48),(u_ 49),(u_ 50),(u_ 51),(u_ 52),(u_ 53),(u_ 54),(u_ 55),(u_ 56),(u_ 57),(u_ 58)]:Array Value).getD k_ undef),rfl,eP _ _⟩
   case stop =>
    rintro D_ c pre X_ hD hp h hK
    exact h.elim
   case body =>
    skip
    rintro l pre c a_ X_ hlW ⟨r,hr⟩ ⟨m4,m5,m6,m11,m13,HO,hM,mB⟩ ⟨g14,u_,rfl,m14⟩ hlen
    have hXs:W0.heap.size≤X_.heap.size:=Nat.le_trans hlW (Nat.le_of_lt (bP hr))
    clear hr
    have hN:Below X_.heap.size X_ X_:=Below.refl _ _
    have hmap:(qK s v X G T A ((pre++[c]).map Subtype.val)) = oJ (qK s v X G T A (pre.map Subtype.val)) (kP s v X G T c.1.f0 c.1.f1):=by rw [List.map_append,List.map_singleton,RQ]
    have HM:=Lib.hid hmap
    clear hmap
    have kEc:=fun W (h:jo W b s v)=>kE W c.1.f0 c.1.f1 h c.2.1.1 c.2.1.2 c.2.2.1 c.2.2.2
    clear kE
    generalize kP s v X G T c.1.f0 c.1.f1 = E at*
    generalize (qK s v X G T A (pre.map Subtype.val)) = P at*
    have kH:=fun W=>YT P E W
    generalize oJ P E = Y at*
    obtain ⟨⟨c0,c1⟩,c2⟩:=c
    dsimp only at m14
    replace m4:=ag m4
    replace m5:=ag m5
    replace m6:=ag m6
    replace m11:=ag m11
    replace m13:=ag m13
    replace m14:=ag m14
    replace mB:=bU mB
    replace HO:=Kd.lD HO (bU (Below.refl X_.heap.size X_))
    replace hM:=hM.below (bU (Below.refl _ X_))
    replace hN:=bU hN
    have hmx:Try.prog.follows .mixedOrders = true:=by kernel_rfl
    gi_wp2_with fail
    skip
    refine RV (m:=9) (S:=fun w'=>w'.cell? ⟨g4,0,none⟩ = some (.pointer (some ⟨b,0,none⟩))∧w'.cell? ⟨g5,0,none⟩ = some (U Z X.f0.f0)∧w'.cell? ⟨g5,1,none⟩ = some (U Z X.f0.f1)∧w'.cell? ⟨g5,2,none⟩ = some (U Z X.f1.f0)∧w'.cell? ⟨g5,3,none⟩ = some (U Z X.f1.f1)∧w'.cell? ⟨g6,0,none⟩ = some (U Z T)∧w'.cell? ⟨g11,0,none⟩ = some (U Z G.f0.f0)∧w'.cell? ⟨g11,1,none⟩ = some (U Z G.f0.f1)∧w'.cell? ⟨g11,2,none⟩ = some (U Z G.f1.f0)∧w'.cell? ⟨g11,3,none⟩ = some (U Z G.f1.f1)∧w'.cell? ⟨g13,0,none⟩ = some (U Z P.f0.f0)∧w'.cell? ⟨g13,1,none⟩ = some (U Z P.f0.f1)∧w'.cell? ⟨g13,2,none⟩ = some (U Z P.f1.f0)∧w'.cell? ⟨g13,3,none⟩ = some (U Z P.f1.f1)∧w'.cell? ⟨g14,0,none⟩ = some (U Z c0)∧w'.cell? ⟨g14,1,none⟩ = some (U Z c1)) (ds:=[8]) #[ac,ac,ac,ac,ac,ac,ac,ac,ac] aY (z8 Gy) aY rfl rfl ⟨((af m4 0).trans rfl),((af m5 0).trans rfl),((af m5 1).trans rfl),((af m5 2).trans rfl),((af m5 3).trans rfl),((af m6 0).trans rfl),((af m11 0).trans rfl),((af m11 1).trans rfl),((af m11 2).trans rfl),((af m11 3).trans rfl),((af m13 0).trans rfl),((af m13 1).trans rfl),((af m13 2).trans rfl),((af m13 3).trans rfl),((af m14 0).trans rfl),((af m14 1).trans rfl)⟩ (fun hHeld=>?_)
    generalize hWd:World.drew _ = Wx at m4 m5 m6 m11 m13 m14 HO hM hN mB hHeld ⊢
    clear hWd
    refine ja (i:=0) (N:=some 37) aY hHeld ?_
    refine ja (i:=1) (N:=some 38) aY hHeld ?_
    refine ja (i:=2) (N:=some 39) aY hHeld ?_
    refine ja (i:=3) (N:=some 40) aY hHeld ?_
    refine ja (i:=4) (N:=some 41) aY hHeld ?_
    refine ja (i:=5) (N:=some 42) aY hHeld ?_
    refine jJ (i:=6) (N:=some 43) #[ab,ab,ab,ab,ab,ab,ab,ac,ac] rfl rfl aY (by decide) (fun K hK=>?_)
    have kF:=kEc Wx (hT.below mB)
    refine gQ Try.func101 aY rfl #[.pointer (some ⟨b,0,none⟩),.agg #[U Z X.f0.f0,U Z X.f0.f1,U Z X.f1.f0,U Z X.f1.f1],.agg #[U Z G.f0.f0,U Z G.f0.f1,U Z G.f1.f0,U Z G.f1.f1],U Z T,.agg #[U Z c0,U Z c1]] (by rfl) rfl rfl PK ?_
    with_reducible refine (kF).mono ?_
    rintro e w6 ⟨rfl,hb⟩
    refine ⟨_,rfl,?_⟩
    clear kF
    replace HO:=Kd.lD HO hb
    replace hM:=hM.below hb
    replace hN:=bO hN hb
    replace m4:=av m4 hb
    replace m5:=av m5 hb
    replace m6:=av m6 hb
    replace m11:=av m11 hb
    replace m13:=av m13 hb
    replace m14:=av m14 hb
    replace mB:=bO mB hb
    clear hb
    refine hK.out _ _ ⟨((af m4 0).trans rfl),((af m5 0).trans rfl),((af m5 1).trans rfl),((af m5 2).trans rfl),((af m5 3).trans rfl),((af m6 0).trans rfl),((af m11 0).trans rfl),((af m11 1).trans rfl),((af m11 2).trans rfl),((af m11 3).trans rfl),((af m13 0).trans rfl),((af m13 1).trans rfl),((af m13 2).trans rfl),((af m13 3).trans rfl),((af m14 0).trans rfl),((af m14 1).trans rfl)⟩ (fun hHeld=>?_)
    clear hK K
    refine eY auK ?_
    refine jJ (i:=7) (N:=some 44) #[ab,ab,ab,ab,ab,ab,ab,ab,ac] rfl rfl aY (by decide) (fun K hK=>?_)
    have kF:=kH w6
    refine gQ Try.func119 aY rfl #[.agg #[U Z P.f0.f0,U Z P.f0.f1,U Z P.f1.f0,U Z P.f1.f1],.agg #[U Z E.f0.f0,U Z E.f0.f1,U Z E.f1.f0,U Z E.f1.f1]] (by rfl) rfl rfl PK ?_
    with_reducible refine (kF).mono ?_
    rintro e w7 ⟨rfl,hb⟩
    refine ⟨_,rfl,?_⟩
    clear kF
    replace HO:=Kd.lD HO hb
    replace hM:=hM.below hb
    replace hN:=bO hN hb
    replace m4:=av m4 hb
    replace m5:=av m5 hb
    replace m6:=av m6 hb
    replace m11:=av m11 hb
    replace m13:=av m13 hb
    replace m14:=av m14 hb
    replace mB:=bO mB hb
    clear hb
    refine hK.out _ _ ⟨((af m4 0).trans rfl),((af m5 0).trans rfl),((af m5 1).trans rfl),((af m5 2).trans rfl),((af m5 3).trans rfl),((af m6 0).trans rfl),((af m11 0).trans rfl),((af m11 1).trans rfl),((af m11 2).trans rfl),((af m11 3).trans rfl),((af m13 0).trans rfl),((af m13 1).trans rfl),((af m13 2).trans rfl),((af m13 3).trans rfl),((af m14 0).trans rfl),((af m14 1).trans rfl)⟩ (fun hHeld=>?_)
    clear hK K
    refine eY (by show Act.put _ (some 44) _ = _;simp only [Act.put,List.setIfInBounds_toArray,List.set_cons_zero,List.set_cons_succ,eB,eH];rfl) ?_
    refine Kg (i:=8) (N:=none) #[ab,ab,ab,ab,ab,ab,ab,ab,ab] rfl rfl aY (by decide) (fun K hK=>?_)
    have K7:=bn m13 0
    have PH:=bn m13 1
    have Xz:=bn m13 2
    have XB:=bn m13 3
    have K8:=(af m13 0).trans rfl
    have PI:=(af m13 1).trans rfl
    have XA:=(af m13 2).trans rfl
    have XC:=(af m13 3).trans rfl
    refine zD (w1:=?_) (by rfl) rfl ?_ ?_
    rotate_left
    ·go_simp
     rfl
    refine hK.out _ _ ?_
    clear hK K
    refine lI aY ?_
    skip
    obtain ⟨Bb,zA,Bc,vY,Dm,o7,lC,pV,zS⟩:=HN.out
    refine ⟨(mh hN).trans (((((KeepsOthers.setCell _ _ _).trans (KeepsOthers.setCell _ _ _)).trans (KeepsOthers.setCell _ _ _)).trans (KeepsOthers.setCell _ _ _)).from _),(Tq.set (p:=⟨g13,3,none⟩) (Tq.set (p:=⟨g13,2,none⟩) (Tq.set (p:=⟨g13,1,none⟩) (Tq.set (p:=⟨g13,0,none⟩) (Tq.below (Nat.le_trans BQ hXs) hN) YS Dm _) YS Dm _) YS Dm _) YS Dm _),?_⟩
    dsimp only
    rw [HM.out]
    exact ⟨(aj (p:=⟨g13,3,none⟩) (aj (p:=⟨g13,2,none⟩) (aj (p:=⟨g13,1,none⟩) (aj (p:=⟨g13,0,none⟩) m4 Bb _) Bb _) Bb _) Bb _),(aj (p:=⟨g13,3,none⟩) (aj (p:=⟨g13,2,none⟩) (aj (p:=⟨g13,1,none⟩) (aj (p:=⟨g13,0,none⟩) m5 zA _) zA _) zA _) zA _),(aj (p:=⟨g13,3,none⟩) (aj (p:=⟨g13,2,none⟩) (aj (p:=⟨g13,1,none⟩) (aj (p:=⟨g13,0,none⟩) m6 Bc _) Bc _) Bc _) Bc _),(aj (p:=⟨g13,3,none⟩) (aj (p:=⟨g13,2,none⟩) (aj (p:=⟨g13,1,none⟩) (aj (p:=⟨g13,0,none⟩) m11 vY _) vY _) vY _) vY _),(aI (aI (aI (aI m13 0 _ rfl) 1 _ rfl) 2 _ rfl) 3 _ rfl),(Kd.dM (p:=⟨g13,3,none⟩) (Kd.dM (p:=⟨g13,2,none⟩) (Kd.dM (p:=⟨g13,1,none⟩) (Kd.dM (p:=⟨g13,0,none⟩) HO (fun _ hk=>hk.2) _) (fun _ hk=>hk.2) _) (fun _ hk=>hk.2) _) (fun _ hk=>hk.2) _),(Marks.set (Marks.set (Marks.set (Marks.set hM m13 (i:=0) _) (aI m13 0 _ rfl) (i:=1) _) (aI (aI m13 0 _ rfl) 1 _ rfl) (i:=2) _) (aI (aI (aI m13 0 _ rfl) 1 _ rfl) 2 _ rfl) (i:=3) _),(Below.setCell (p:=⟨g13,3,none⟩) (Below.setCell (p:=⟨g13,2,none⟩) (Below.setCell (p:=⟨g13,1,none⟩) (Below.setCell (p:=⟨g13,0,none⟩) mB YS _) YS _) YS _) YS _)⟩
   case done =>
    rintro D_ xs X_ hD hxs ⟨m4,m5,m6,m11,m13,HO,hM,mB⟩ hK
    skip
    clear kE
    have hHx:qK s v X G T A (xs.map Subtype.val) = H:=by rw [show xs.map Subtype.val = MX s from hxs];exact HST.out.symm
    rw [hHx] at m13
    clear hHx HST hxs
    have hM2:=hM.cons (fun h=>absurd (hDs D_ h) (Nat.not_lt.2 hD)) (Nat.le_trans BQ hD) hK
    clear hM hK
    have aPo:w.heap.size≤X_.heap.size:=mB.size
    dsimp only [Exit.inBlock,Exit.then]
    apply_assumption
    refine Eu (wpIn_wide.2 ?_)
    skip
    have aEf:=Kd.ZG HO m4 (by decide)
    have aEg:=Kd.ZG HO m6 (by decide)
    have hne5:some g5≠v_.ownBlock:=fun h=>(HO.1 g5 h.symm).1 rfl
    have aud:some g13≠v_.ownBlock:=fun h=>(HO.1 g13 h.symm).2 rfl
    have hneD:∀ E ∈ D_ :: Ds,some E≠v_.ownBlock:=fun E hE h=>by obtain ⟨_,hc⟩:=Kd.aa5 HO _ h.symm;rw [(hM2.2 E hE).2] at hc;cases hc
    have aEh:Hid ((out.length+1)*32≤140737488355328):=Lib.hid (by have:=HQ.out.1;omega)
    have aPp:=bP m5
    have aEi:=bP m13
    obtain ⟨aEj,aEk,aEl,aEm⟩:=nV m13
    go_wp2_with (first|((with_reducible refine FP (b:=.append) (xs:=#[.tmp 45,.tmp 47]) rfl ?_);(try (refine qU (by rfl) ?_;dsimp only));at_builtin;go_loud (refine Kd.Q8 Iy (w0:=w) w.heap.size rfl (.tmp 45) (.tmp 47) 50 31 (.agg #[U Z 0,U Z 0,U Z 0,U Z 0]) 32 rfl Try.underlying50 aiD rfl (by decide) (by decide) v_ out H [U Z H.f0.f0,U Z H.f0.f1,U Z H.f1.f0,U Z H.f1.f1] (fun q=>q≠g5∧q≠g13) (fun _=>False) rfl (by first|rfl|(go_simp;done)|(go_simp;rfl)) ?aP (fun _ hk=>hk.elim) ?aF ?aO ?aB ?aS ?aL ?_);(case aP=>exact acb _ _ _ H);(case aF=>exact (fun q hq=>by omega));(case aO=>exact HO);(case aB=>exact mB);(case aS=>exact mB.size);(case aL=>exact aEh.out);intro v1 w1 HO1 hB1 hgr hat))
    skip
    clear aEj aEk aEl aEm
    replace m4:=oW m4 hgr aEf
    replace m5:=oW m5 hgr hne5
    replace m6:=oW m6 hgr aEg
    replace m13:=oW m13 hgr aud
    replace hM2:=Marks.grown hM2 hgr hneD
    clear hgr hat HO aEf hne5 aEg aud hneD mB aEh aPp aEi m11
    have mB:=hB1
    clear hB1
    replace HO1:=Kd.qw HO1 m6 (by decide)
    obtain ⟨A7,c7,A8,c8,mT,_⟩:=hT.below mB
    obtain ⟨Bb,zA,Bc,vY,Dm,o7,lC,pV,zS⟩:=HN.out
    have nQ:=zA.symm
    have ari:b≠g5:=by have h_:=hT;obtain ⟨_,_,_,_,h_,_⟩:=h_;have h2_:=(Array.getElem?_eq_some_iff.1 h_).1;omega
    have aUU:b≠g6:=by have h_:=hT;obtain ⟨_,_,_,_,h_,_⟩:=h_;have h2_:=(Array.getElem?_eq_some_iff.1 h_).1;omega
    replace m4:=ag m4
    replace m5:=ag m5
    replace m6:=ag m6
    replace m13:=ag m13
    replace mT:=ag mT
    replace mB:=bU mB
    replace HO1:=Kd.lD HO1 (bU (Below.refl w1.heap.size w1))
    replace hM2:=hM2.below (bU (Below.refl _ w1))
    refine jT (n:=10) (S:=fun w'=>w'.cell? ⟨g13,0,none⟩ = some (U Z H.f0.f0)∧w'.cell? ⟨g13,1,none⟩ = some (U Z H.f0.f1)∧w'.cell? ⟨g13,2,none⟩ = some (U Z H.f1.f0)∧w'.cell? ⟨g13,3,none⟩ = some (U Z H.f1.f1)∧w'.cell? ⟨g6,0,none⟩ = some (U Z T)∧w'.cell? ⟨g4,0,none⟩ = some (.pointer (some ⟨b,0,none⟩))∧w'.cell? ⟨b,10,none⟩ = some (U Z v.dive)) (ds:=[9]) #[ac,ac,ac,ac,ac,ac,ac,ac,ac,ac] aY rfl rfl ⟨((af m13 0).trans rfl),((af m13 1).trans rfl),((af m13 2).trans rfl),((af m13 3).trans rfl),((af m6 0).trans rfl),((af m4 0).trans rfl),((af mT 10).trans rfl)⟩ (fun hHeld=>?_)
    generalize hWd:World.drew _ = Wx at m4 m5 m6 m13 mT HO1 hM2 mB hHeld ⊢
    clear hWd
    refine ja (i:=0) (N:=some 49) aY hHeld ?_
    refine ja (i:=1) (N:=some 50) aY hHeld ?_
    refine ja (i:=2) (N:=some 51) aY hHeld ?_
    refine dW (i:=3) (N:=some 52) aY ?_
    refine dW (i:=4) (N:=some 53) aY ?_
    refine dW (i:=5) (N:=some 54) aY ?_
    refine ja (i:=6) (N:=some 55) aY hHeld ?_
    refine dW (i:=7) (N:=some 56) aY ?_
    refine jJ (i:=8) (N:=none) #[ab,ab,ab,ab,ab,ab,ab,ab,ab,ac] rfl rfl aY (by decide) (fun K hK=>?_)
    have K7:=bn m5 0
    have PH:=bn m5 1
    have Xz:=bn m5 2
    have XB:=bn m5 3
    have K8:=(af m5 0).trans rfl
    have PI:=(af m5 1).trans rfl
    have XA:=(af m5 2).trans rfl
    have XC:=(af m5 3).trans rfl
    refine zD (w1:=?_) (by rfl) rfl ?_ ?_
    rotate_left
    ·go_simp
     rfl
    clear K7 K8 PH PI Xz XA XB XC
    refine hK.out _ _ ⟨((af (aj (p:=⟨g5,3,none⟩) (aj (p:=⟨g5,2,none⟩) (aj (p:=⟨g5,1,none⟩) (aj (p:=⟨g5,0,none⟩) m13 nQ _) nQ _) nQ _) nQ _) 0).trans rfl),((af (aj (p:=⟨g5,3,none⟩) (aj (p:=⟨g5,2,none⟩) (aj (p:=⟨g5,1,none⟩) (aj (p:=⟨g5,0,none⟩) m13 nQ _) nQ _) nQ _) nQ _) 1).trans rfl),((af (aj (p:=⟨g5,3,none⟩) (aj (p:=⟨g5,2,none⟩) (aj (p:=⟨g5,1,none⟩) (aj (p:=⟨g5,0,none⟩) m13 nQ _) nQ _) nQ _) nQ _) 2).trans rfl),((af (aj (p:=⟨g5,3,none⟩) (aj (p:=⟨g5,2,none⟩) (aj (p:=⟨g5,1,none⟩) (aj (p:=⟨g5,0,none⟩) m13 nQ _) nQ _) nQ _) nQ _) 3).trans rfl),((af (aj (p:=⟨g5,3,none⟩) (aj (p:=⟨g5,2,none⟩) (aj (p:=⟨g5,1,none⟩) (aj (p:=⟨g5,0,none⟩) m6 lC _) lC _) lC _) lC _) 0).trans rfl),((af (aj (p:=⟨g5,3,none⟩) (aj (p:=⟨g5,2,none⟩) (aj (p:=⟨g5,1,none⟩) (aj (p:=⟨g5,0,none⟩) m4 pV _) pV _) pV _) pV _) 0).trans rfl),((af (aj (p:=⟨g5,3,none⟩) (aj (p:=⟨g5,2,none⟩) (aj (p:=⟨g5,1,none⟩) (aj (p:=⟨g5,0,none⟩) mT ari _) ari _) ari _) ari _) 10).trans rfl)⟩ (fun hHeld=>?_)
    clear hK K
    refine Kg (i:=9) (N:=none) #[ab,ab,ab,ab,ab,ab,ab,ab,ab,ab] rfl rfl aY (by decide) (fun K hK=>?_)
    have NL:=(aj (p:=⟨g5,3,none⟩) (aj (p:=⟨g5,2,none⟩) (aj (p:=⟨g5,1,none⟩) (aj (p:=⟨g5,0,none⟩) m6 lC (U Z H.f0.f0)) lC (U Z H.f0.f1)) lC (U Z H.f1.f0)) lC (U Z H.f1.f1))
    have K7:=bn NL 0
    have K8:=(af NL 0).trans rfl
    refine zD (w1:=?_) (by rfl) rfl ?_ ?_
    rotate_left
    ·go_simp
     rfl
    refine hK.out _ _ ?_
    clear hK K
    refine lI aY ?_
    skip
    refine vZ ?_
    gi_wp2
    skip
    have hq:=HQ.out
    have hv:=HDV.out
    have hwr:wrap64 (T+v.dive) = T+v.dive:=by unfold wrap64;omega
    have hkw:((k+1:Nat):Int) = (k:Int)+1:=by omega
    refine ⟨⟨k+1,H,wrap64 (T+v.dive),out++[H],v1,D_ :: Ds,(fun k_=>(#[(u_ 0),(u_ 1),(u_ 2),(u_ 3),.pointer (some ⟨g4,0,none⟩),.pointer (some ⟨g5,0,none⟩),.pointer (some ⟨g6,0,none⟩),(u_ 7),(u_ 8),(u_ 9),v1,.pointer (some ⟨g11,0,none⟩),U Z 0,.pointer (some ⟨g13,0,none⟩),(u_ 14),U Z (n:Int),U Z (((k+1:Nat)):Int),.bool true,.tuple #[.agg #[U Z G.f0.f0,U Z G.f0.f1,U Z G.f1.f0,U Z G.f1.f1],U Z 0],.pointer (some ⟨b,0,none⟩),.agg #[U Z X.f0.f0,U Z X.f0.f1,U Z X.f1.f0,U Z X.f1.f1],U Z T,.tuple #[.agg #[U Z G.f0.f0,U Z G.f0.f1,U Z G.f1.f0,U Z G.f1.f1],U Z 0],.agg #[U Z G.f0.f0,U Z G.f0.f1,U Z G.f1.f0,U Z G.f1.f1],U Z 0,U Z 0,.bool false,(u_ 27),.pointer (some ⟨b,0,none⟩),.agg #[U Z X.f0.f0,U Z X.f0.f1,U Z X.f1.f0,U Z X.f1.f1],.agg #[U Z G.f0.f0,U Z G.f0.f1,U Z G.f1.f0,U Z G.f1.f1],U Z T,.agg #[U Z 0,U Z 0],.agg #[U Z A.f0.f0,U Z A.f0.f1,U Z A.f1.f0,U Z A.f1.f1],.pointer (some ⟨b,0,none⟩),.func (.func 129) #[] #[.pointer (some ⟨gP,0,none⟩)],(u_ 36),(u_ 37),(u_ 38),(u_ 39),(u_ 40),(u_ 41),(u_ 42),(u_ 43),(u_ 44),v_,.agg #[U Z H.f0.f0,U Z H.f0.f1,U Z H.f1.f0,U Z H.f1.f1],.slice (some ⟨X_.heap.size,0,none⟩) 1 1,v1,.agg #[U Z H.f0.f0,U Z H.f0.f1,U Z H.f1.f0,U Z H.f1.f1],U Z T,.pointer (some ⟨b,0,none⟩),.pointer (some ⟨b,0,none⟩),.pointer (some ⟨b,9,none⟩),.pointer (some ⟨b,10,none⟩),U Z v.dive,U Z (wrap64 (T+v.dive)),U Z (((k+1:Nat)):Int),(u_ 58)]:Array Value).getD k_ undef),?fr,by omega,Lib.hid (by rw [hwr];exact HR3.out),Lib.hid ⟨by rw [List.length_append];simp;omega,Zy.out,by rw [hwr];omega,by rw [hwr];omega⟩,(Marks.set (Marks.set (Marks.set (Marks.set (Marks.set hM2 m5 (i:=0) _) (aI m5 0 (U Z H.f0.f0) rfl) (i:=1) _) (aI (aI m5 0 (U Z H.f0.f0) rfl) 1 (U Z H.f0.f1) rfl) (i:=2) _) (aI (aI (aI m5 0 (U Z H.f0.f0) rfl) 1 (U Z H.f0.f1) rfl) 2 (U Z H.f1.f0) rfl) (i:=3) _) (aj (p:=⟨g5,3,none⟩) (aj (p:=⟨g5,2,none⟩) (aj (p:=⟨g5,1,none⟩) (aj (p:=⟨g5,0,none⟩) m6 lC _) lC _) lC _) lC _) (i:=0) _),(aj (p:=⟨g6,0,none⟩) (aj (p:=⟨g5,3,none⟩) (aj (p:=⟨g5,2,none⟩) (aj (p:=⟨g5,1,none⟩) (aj (p:=⟨g5,0,none⟩) m4 pV _) pV _) pV _) pV _) zS _),(aj (p:=⟨g6,0,none⟩) (aI (aI (aI (aI m5 0 (U Z H.f0.f0) rfl) 1 (U Z H.f0.f1) rfl) 2 (U Z H.f1.f0) rfl) 3 (U Z H.f1.f1) rfl) o7 _),(aI (aj (p:=⟨g5,3,none⟩) (aj (p:=⟨g5,2,none⟩) (aj (p:=⟨g5,1,none⟩) (aj (p:=⟨g5,0,none⟩) m6 lC _) lC _) lC _) lC _) 0 (U Z (wrap64 (T+v.dive))) rfl),Kd.jC (Kd.dM (p:=⟨g6,0,none⟩) (Kd.dM (p:=⟨g5,3,none⟩) (Kd.dM (p:=⟨g5,2,none⟩) (Kd.dM (p:=⟨g5,1,none⟩) (Kd.dM (p:=⟨g5,0,none⟩) HO1 (fun _ hk=>hk.1.1) _) (fun _ hk=>hk.1.1) _) (fun _ hk=>hk.1.1) _) (fun _ hk=>hk.1.1) _) (fun _ hk=>hk.2) _) (fun _ hk=>hk.1.1),(Below.setCell (p:=⟨g6,0,none⟩) (Below.setCell (p:=⟨g5,3,none⟩) (Below.setCell (p:=⟨g5,2,none⟩) (Below.setCell (p:=⟨g5,1,none⟩) (Below.setCell (p:=⟨g5,0,none⟩) mB hG5 _) hG5 _) hG5 _) hG5 _) SC _)⟩,by simp [intOf];omega⟩
    skip
    case fr=>first|rfl|(rw [hkw];rfl)
end Go.Proofs.Ytmhaiihjfgfaoaa.Gl
end
