import Derived.Test.YtmhaiihjfgfaoaaGzGliderReaches3
import Derived.Test.YtmhaiihjfgfaoaaGzGliderReaches29
open Go.Value renaming int → U
open Go.IntKind renaming i64 → Z
open Bool renaming true → ab, false → ac
section
namespace Go.Proofs.Ytmhaiihjfgfaoaa.Gl
open Go.RowKit Go.Shelf Go.Proofs.YtmhaiihjfgfaoaaW.PrintWords Go.Proofs.YtmhaiihjfgfaoaaW.PrintLast Go.Proofs.YtmhaiihjfgfaoaaW.PrintMore Go.Proofs.Ytmhaiihjfgfaoaa.Pr Go.Proofs.YtmhaiihjfgfaoaaW.Round
set_option linter.unusedVariables false
set_option linter.unusedSimpArgs false
attribute [local go_sem] eD eF fD fE eG
attribute [local go_sem] Oper.semAt_some
def GD (s:j3) (v:nz) (x g:dO) (t:Int) (tb:dO) (a:Int) (l:List Hm):Int:=l.foldl (fun a c=>if BU (kP s v x g t c.f0 c.f1) tb = 2 then a else 16) a
theorem Uj (s:j3) (v:nz) (x g:dO) (t:Int) (tb:dO) (a:Int) (l:List Hm) (c:Hm):GD s v x g t tb a (l++[c]) = if BU (kP s v x g t c.f0 c.f1) tb = 2 then GD s v x g t tb a l else 16:=by unfold GD;rw [List.foldl_append];rfl
def KO (s:j3) (v:nz) (x:dO) (t:Int) (tb:dO) (a:Int):Int:=GD s v x (dQ s v x) t tb a (MX s)
def ckI (s:j3) (v:nz):List dO→dO→Int→Int→Int
 |[],_,_,a=>a
 |tb :: l,x,t,a=>if ig s v x t≠0 then ig s v x t else ckI s v l tb (t+v.dive) (KO s v x t tb a)
def CkX (s:j3) (v:nz) (x:dO) (t:Int) (l:List dO):Int:=if ky s v x t≠0 then ky s v x t else if xR l≠0 then xR l else ckI s v l x t 0
theorem Uk {l:List dO} (h:xR l = 0):l.length≤64∧∀ x ∈ l,kG x:=by
 unfold xR at h
 by_cases h1:l.length > 64
 ·rw [if_pos h1] at h;cases h
 ·rw [if_neg h1] at h
  refine ⟨by omega,fun x hx=>abd ?_⟩
  cases hb:l.any (fun x=>!vw x) with
  |true=>rw [hb] at h;cases h
  |false =>
   have h2:=List.any_eq_false.1 hb x hx
   unfold Hq
   cases h3:vw x with
   |true=>rfl
   |false=>rw [h3] at h2;exact absurd rfl h2
def WY (w:World) (g bp:Nat) (tc:Array Value) (A B:World):Prop:=Below w.heap.size A B∧(eT A g tc 110→eT B g tc 110)∧(eT A bp #[.pointer (some ⟨g,0,none⟩)] 104→eT B bp #[.pointer (some ⟨g,0,none⟩)] 104)
theorem WY.trans {w:World} {g bp:Nat} {tc:Array Value} {A B C:World} (h:WY w g bp tc A B) (k:WY w g bp tc B C):WY w g bp tc A C:=⟨h.1.trans k.1,fun q=>k.2.1 (h.2.1 q),fun q=>k.2.2 (h.2.2 q)⟩
theorem WY.put {w W0:World} {g bp:Nat} {tc:Array Value} (hw:w.heap.size≤W0.heap.size) (hg:g < W0.heap.size) (hp:bp < W0.heap.size) (W:World) (l:Nat) (o o':Obj) (hl:W0.heap.size≤l) (h:W.heap[l]? = some o) (h1:o.isCells = false) (h2:o.isWalk = false):WY w g bp tc W (W.putObj l o') :=
 ⟨belowK_b hw W l o o' hl h h1 h2,fun q=>(World.putObj_heap_other (by omega)).trans q,fun q=>(World.putObj_heap_other (by omega)).trans q⟩
theorem WY.below {w:World} {g bp:Nat} {tc:Array Value} {A B:World} (hw:w.heap.size≤A.heap.size) (h:Below A.heap.size A B):WY w g bp tc A B:=⟨h.mono hw,fun q=>eT.zZ q h,fun q=>eT.zZ q h⟩
theorem WY.set {w:World} {g bp:Nat} {tc:Array Value} {A B:World} (h:WY w g bp tc A B) {p:Addr} (hp:w.heap.size≤p.block) (h1:g≠p.block) (h2:bp≠p.block) (u:Value):WY w g bp tc A (B.setCell p u):=⟨h.1.setCell hp u,fun q=>aj (h.2.1 q) h1 u,fun q=>aj (h.2.2 q) h2 u⟩
set_option maxRecDepth 100000 in
set_option maxHeartbeats 16000000 in
theorem R8 (s:j3) (v:nz) (x:dO) (t:Int) (A:Option Addr) (c:Nat) (l:List dO) (A7 A8:Option Addr) (c7 c8:Nat) (w:World) (h7:s.shores.length≤c7) (TG:Kd.C Kd.bool w A7 s.shores.length s.shores) (h8:s.currents.length≤c8) (PM:Kd.C DD w A8 s.currents.length s.currents) (hC:Kd.C Iy w A l.length l) (hc:l.length≤c):
 Calls Try.prog 51 #[.agg #[U Z s.nx,U Z s.ny,U Z s.cell,U Z s.slot,U Z s.slots,U Z s.layers,U Z s.most,.slice A7 s.shores.length c7,.slice A8 s.currents.length c8],.agg #[U Z v.speed,U Z v.dive,U Z v.use.f0,U Z v.use.f1,U Z v.drift.f0,U Z v.drift.f1,U Z v.reserve],.agg #[U Z x.f0.f0,U Z x.f0.f1,U Z x.f1.f0,U Z x.f1.f1],U Z t,.slice A l.length c] w (sI (U Z (CkX s v x t l)) w):=by
 have zR:=Try.underlying25
 have Cb:=Try.underlying29
 have oP:=Try.underlying31
 have SH:=Try.underlying33
 have oo:=Try.underlying27
 have HX:Hid (CkX s v x t l = if ky s v x t≠0 then ky s v x t else if xR l≠0 then xR l else ckI s v l x t 0):=Lib.hid rfl
 have hbg:ky s v x t = if kI s v≠0 then kI s v else nD x t:=rfl
 have HBG:=Lib.hid hbg
 clear hbg
 refine (callsIn_wide (n:=7)).1 ?_
 refine callsIn_of_wp_marks Try.func51 rfl trivial ?_ rfl
 simp only [Try.ntmps51,List.size_toArray,List.length_cons,List.length_nil,Nat.reduceAdd,Nat.reduceSub,Array.replicate_succ,Array.replicate_zero,List.push_toArray,List.append_toArray,List.nil_append,List.cons_append]
 gi_wp2_with fail
 have m5:eT ((((w.alloc (.cells #[U Z s.nx,U Z s.ny,U Z s.cell,U Z s.slot,U Z s.slots,U Z s.layers,U Z s.most,.slice A7 s.shores.length c7,.slice A8 s.currents.length c8] 25)).alloc (.cells #[U Z v.speed,U Z v.dive,U Z v.use.f0,U Z v.use.f1,U Z v.drift.f0,U Z v.drift.f1,U Z v.reserve] 29)).alloc (.cells #[U Z x.f0.f0,U Z x.f0.f1,U Z x.f1.f0,U Z x.f1.f1] 31)).alloc (.cells #[U Z t] 2)) (w.heap.size) #[U Z s.nx,U Z s.ny,U Z s.cell,U Z s.slot,U Z s.slots,U Z s.layers,U Z s.most,.slice A7 s.shores.length c7,.slice A8 s.currents.length c8] 25:=(ae (ae (ae UN _) _) _)
 have m6:eT ((((w.alloc (.cells #[U Z s.nx,U Z s.ny,U Z s.cell,U Z s.slot,U Z s.slots,U Z s.layers,U Z s.most,.slice A7 s.shores.length c7,.slice A8 s.currents.length c8] 25)).alloc (.cells #[U Z v.speed,U Z v.dive,U Z v.use.f0,U Z v.use.f1,U Z v.drift.f0,U Z v.drift.f1,U Z v.reserve] 29)).alloc (.cells #[U Z x.f0.f0,U Z x.f0.f1,U Z x.f1.f0,U Z x.f1.f1] 31)).alloc (.cells #[U Z t] 2)) (w.heap.size+1) #[U Z v.speed,U Z v.dive,U Z v.use.f0,U Z v.use.f1,U Z v.drift.f0,U Z v.drift.f1,U Z v.reserve] 29:=(ae (ae XN _) _)
 have m7:eT ((((w.alloc (.cells #[U Z s.nx,U Z s.ny,U Z s.cell,U Z s.slot,U Z s.slots,U Z s.layers,U Z s.most,.slice A7 s.shores.length c7,.slice A8 s.currents.length c8] 25)).alloc (.cells #[U Z v.speed,U Z v.dive,U Z v.use.f0,U Z v.use.f1,U Z v.drift.f0,U Z v.drift.f1,U Z v.reserve] 29)).alloc (.cells #[U Z x.f0.f0,U Z x.f0.f1,U Z x.f1.f0,U Z x.f1.f1] 31)).alloc (.cells #[U Z t] 2)) (w.heap.size+1+1) #[U Z x.f0.f0,U Z x.f0.f1,U Z x.f1.f0,U Z x.f1.f1] 31:=(ae aff _)
 have m8:eT ((((w.alloc (.cells #[U Z s.nx,U Z s.ny,U Z s.cell,U Z s.slot,U Z s.slots,U Z s.layers,U Z s.most,.slice A7 s.shores.length c7,.slice A8 s.currents.length c8] 25)).alloc (.cells #[U Z v.speed,U Z v.dive,U Z v.use.f0,U Z v.use.f1,U Z v.drift.f0,U Z v.drift.f1,U Z v.reserve] 29)).alloc (.cells #[U Z x.f0.f0,U Z x.f0.f1,U Z x.f1.f0,U Z x.f1.f1] 31)).alloc (.cells #[U Z t] 2)) (w.heap.size+1+1+1) #[U Z t] 2:=(by have h_:=eP (((w.alloc (.cells #[U Z s.nx,U Z s.ny,U Z s.cell,U Z s.slot,U Z s.slots,U Z s.layers,U Z s.most,.slice A7 s.shores.length c7,.slice A8 s.currents.length c8] 25)).alloc (.cells #[U Z v.speed,U Z v.dive,U Z v.use.f0,U Z v.use.f1,U Z v.drift.f0,U Z v.drift.f1,U Z v.reserve] 29)).alloc (.cells #[U Z x.f0.f0,U Z x.f0.f1,U Z x.f1.f0,U Z x.f1.f1] 31)) (.cells #[U Z t] 2);first|exact h_|(simp only [World.size_alloc] at h_;exact h_))
 have mB:Below w.heap.size w ((((w.alloc (.cells #[U Z s.nx,U Z s.ny,U Z s.cell,U Z s.slot,U Z s.slots,U Z s.layers,U Z s.most,.slice A7 s.shores.length c7,.slice A8 s.currents.length c8] 25)).alloc (.cells #[U Z v.speed,U Z v.dive,U Z v.use.f0,U Z v.use.f1,U Z v.drift.f0,U Z v.drift.f1,U Z v.reserve] 29)).alloc (.cells #[U Z x.f0.f0,U Z x.f0.f1,U Z x.f1.f0,U Z x.f1.f1] 31)).alloc (.cells #[U Z t] 2)):=(aT (aT (aT (aT (Below.refl w.heap.size w) _) _) _) _)
 have jS:w.heap.size≤w.heap.size:=Nat.le_refl _
 generalize qL:((((w.alloc (.cells #[U Z s.nx,U Z s.ny,U Z s.cell,U Z s.slot,U Z s.slots,U Z s.layers,U Z s.most,.slice A7 s.shores.length c7,.slice A8 s.currents.length c8] 25)).alloc (.cells #[U Z v.speed,U Z v.dive,U Z v.use.f0,U Z v.use.f1,U Z v.drift.f0,U Z v.drift.f1,U Z v.reserve] 29)).alloc (.cells #[U Z x.f0.f0,U Z x.f0.f1,U Z x.f1.f0,U Z x.f1.f1] 31)).alloc (.cells #[U Z t] 2)) = W1 at m5 m6 m7 m8 mB ⊢
 clear qL
 generalize hg5:w.heap.size = g5 at m5 m6 m7 m8 ⊢
 have hG5:w.heap.size≤g5:=by omega
 generalize UC:g5+1 = g6 at m6 m7 m8 ⊢
 have o7:g5≠g6:=by omega
 have lC:g6≠g5:=o7.symm
 have SC:w.heap.size≤g6:=by omega
 generalize hg7:g6+1 = g7 at m7 m8 ⊢
 have DC:g5≠g7:=by omega
 have iy:g6≠g7:=by omega
 have Ri:g7≠g5:=DC.symm
 have Rc:g7≠g6:=iy.symm
 have hG7:w.heap.size≤g7:=by omega
 generalize hg8:g7+1 = g8 at m8 ⊢
 have Nz:g5≠g8:=by omega
 have Ih:g6≠g8:=by omega
 have zP:g7≠g8:=by omega
 have ZL:g8≠g5:=Nz.symm
 have ajG:g8≠g6:=Ih.symm
 have nC:g8≠g7:=zP.symm
 have Xv:w.heap.size≤g8:=by omega
 clear jS
 try clear hg8
 try clear hg7
 try clear UC
 try clear hg5
 have wG:w.heap.size≤W1.heap.size:=mB.size
 obtain ⟨D8,ES,NA,NB,ahF,ahG,ahH,ahI,ahJ⟩:=BG m5
 obtain ⟨DF,Kz,KA,KC,ajs,ajt,aju⟩:=Hr m6
 obtain ⟨Hf,Hg,KD,KE⟩:=nV m7
 have PL:=(af m8 0).trans rfl
 gi_wp2_with fail
 clear D8 ES NA NB ahF ahG ahH ahI ahJ DF Kz KA KC ajs ajt aju Hf Hg KD KE PL
 skip
 have Bo:=bP m5
 have wT:=bP m6
 have He:=bP m7
 have Kt:=bP m8
 have hcon:=aaO s v x t A7 A8 c7 c8 w W1 mB h7 TG h8 PM
 refine ⟨trivial,(callsIn_wide.2 hcon).mono ?_⟩
 clear hcon
 rintro e W2 ⟨ptr,rfl,hb,hpt⟩
 replace m5:=av m5 hb
 replace m6:=av m6 hb
 replace m7:=av m7 hb
 replace m8:=av m8 hb
 replace mB:=bO mB hb
 clear hb
 have sO:w.heap.size≤W2.heap.size:=mB.size
 generalize XO:ky s v x t = E0 at*
 have HE0:=Lib.hid XO
 clear XO
 by_cases h0:E0 = 0
 case neg =>
  as_aux_lemma =>
   have HZ:=Lib.hid (HX.out.trans (if_pos h0))
   have hd1:(E0 == 0) = false:=beq_eq_false_iff_ne.2 h0
   have hd2:(E0 != 0) = true:=by rw [bne,hd1];rfl
   clear h0 hpt HX
   gi_wp2
   exact oK (fun W_=>Below w.heap.size w W_) (fun W_ D_ h hB hD=>h.trans (belowK_b (w:=w) (Nat.le_refl _) W_ D_ _ _ hB hD rfl rfl)) (fun W_ h=>⟨_,results_tmp rfl _ _ _,o6,h⟩) [] _ (Marks.nil _ _) (by repeat (first|exact mB|apply aT))
 case pos =>
  as_aux_lemma =>
   have Zy:=Lib.hid (HX.out.trans (if_neg (fun h=>h h0)))
   clear HX
   have hb0:=HBG.out.symm.trans h0
   obtain ⟨ht0,hp0⟩:=zG hb0
   obtain ⟨hbx,UR,ZX⟩:=BH hp0
   obtain ⟨hSV,hVN⟩:=BF ht0
   rcases hpt with ⟨_,g,rfl,hg,hT,hTT⟩|⟨hbad,_⟩
   case inr=>exact absurd ht0 hbad
   case inl =>
    subst h0
    clear hb0 ht0 hp0 HBG
    obtain ⟨B7,d7,B8,d8,mT,_⟩:=hT
    have hTA:∀ W',Below w.heap.size w W'→eT W' g #[U Z s.nx,U Z s.ny,U Z s.cell,U Z s.slot,U Z s.slots,U Z s.layers,U Z s.most,.slice B7 s.shores.length d7,.slice B8 s.currents.length d8,U Z v.speed,U Z v.dive,U Z v.use.f0,U Z v.use.f1,U Z v.drift.f0,U Z v.drift.f1,U Z v.reserve] 110→jo W' g s v:=fun W' h1 h2=>hTT W' h1 (h2.trans mT.symm)
    have HTA:=Lib.hid hTA
    clear hTA hTT
    have KP:g≠g5:=by omega
    have WZ:=KP.symm
    have EO:g≠g6:=by omega
    have Rb:=EO.symm
    have wQ:g≠g7:=by omega
    have ZJ:=wQ.symm
    have Ii:g≠g8:=by omega
    have ajH:=Ii.symm
    have hGT:w.heap.size≤g:=by omega
    clear Bo wT He Kt hg
    gi_wp2_with fail
    skip
    have Bo:=bP m5
    have wT:=bP m6
    have He:=bP m7
    have Kt:=bP m8
    have wP:=bP mT
    have m11:eT (W2.alloc (.cells #[.pointer (some ⟨g,0,none⟩)] 104)) (W2.heap.size) #[.pointer (some ⟨g,0,none⟩)] 104:=(by have h_:=eP W2 (.cells #[.pointer (some ⟨g,0,none⟩)] 104);first|exact h_|(simp only [World.size_alloc] at h_;exact h_))
    replace m5:eT (W2.alloc (.cells #[.pointer (some ⟨g,0,none⟩)] 104)) g5 #[U Z s.nx,U Z s.ny,U Z s.cell,U Z s.slot,U Z s.slots,U Z s.layers,U Z s.most,.slice A7 s.shores.length c7,.slice A8 s.currents.length c8] 25:=(ae m5 _)
    replace m6:eT (W2.alloc (.cells #[.pointer (some ⟨g,0,none⟩)] 104)) g6 #[U Z v.speed,U Z v.dive,U Z v.use.f0,U Z v.use.f1,U Z v.drift.f0,U Z v.drift.f1,U Z v.reserve] 29:=(ae m6 _)
    replace m7:eT (W2.alloc (.cells #[.pointer (some ⟨g,0,none⟩)] 104)) g7 #[U Z x.f0.f0,U Z x.f0.f1,U Z x.f1.f0,U Z x.f1.f1] 31:=(ae m7 _)
    replace m8:eT (W2.alloc (.cells #[.pointer (some ⟨g,0,none⟩)] 104)) g8 #[U Z t] 2:=(ae m8 _)
    replace mT:eT (W2.alloc (.cells #[.pointer (some ⟨g,0,none⟩)] 104)) g #[U Z s.nx,U Z s.ny,U Z s.cell,U Z s.slot,U Z s.slots,U Z s.layers,U Z s.most,.slice B7 s.shores.length d7,.slice B8 s.currents.length d8,U Z v.speed,U Z v.dive,U Z v.use.f0,U Z v.use.f1,U Z v.drift.f0,U Z v.drift.f1,U Z v.reserve] 110:=(ae mT _)
    replace mB:Below w.heap.size w (W2.alloc (.cells #[.pointer (some ⟨g,0,none⟩)] 104)):=(aT mB _)
    have jS:w.heap.size≤W2.heap.size:=sO
    generalize qL:(W2.alloc (.cells #[.pointer (some ⟨g,0,none⟩)] 104)) = W3 at m5 m6 m7 m8 mT m11 mB ⊢
    clear qL
    generalize awe:W2.heap.size = g11 at m11 ⊢
    have MZ:g5≠g11:=by omega
    have sS:g6≠g11:=by omega
    have Ag:g7≠g11:=by omega
    have aej:g8≠g11:=by omega
    have Af:g≠g11:=by omega
    have WQ:g11≠g5:=MZ.symm
    have WR:g11≠g6:=sS.symm
    have Dq:g11≠g7:=Ag.symm
    have M4:g11≠g8:=aej.symm
    have art:g11≠g:=Af.symm
    have Xy:w.heap.size≤g11:=by omega
    clear jS Bo wT He Kt wP
    try clear awe
    have Ha:w.heap.size≤W3.heap.size:=mB.size
    have hcon:=agl A c l W3 (Kd.bz hC mB) hc
    refine ⟨trivial,(callsIn_wide.2 hcon).mono ?_⟩
    clear hcon
    rintro e W4 ⟨rfl,hb⟩
    replace m5:=av m5 hb
    replace m6:=av m6 hb
    replace m7:=av m7 hb
    replace m8:=av m8 hb
    replace mT:=av mT hb
    replace m11:=av m11 hb
    replace mB:=bO mB hb
    clear hb
    have O3:w.heap.size≤W4.heap.size:=mB.size
    have hok:=fun h=>Uk (l:=l) h
    generalize xR l = E1 at*
    by_cases h1:E1 = 0
    case neg =>
     as_aux_lemma =>
      have HZ:=Lib.hid (Zy.out.trans (if_pos h1))
      have hd1:(E1 == 0) = false:=beq_eq_false_iff_ne.2 h1
      have hd2:(E1 != 0) = true:=by rw [bne,hd1];rfl
      clear h1 Zy hok
      gi_wp2
      exact oK (fun W_=>Below w.heap.size w W_) (fun W_ D_ h hB hD=>h.trans (belowK_b (w:=w) (Nat.le_refl _) W_ D_ _ _ hB hD rfl rfl)) (fun W_ h=>⟨_,results_tmp rfl _ _ _,o6,h⟩) [] _ (Marks.nil _ _) (by repeat (first|exact mB|apply aT))
    case pos =>
     as_aux_lemma =>
      have HX3:=Lib.hid (Zy.out.trans (if_neg (fun h=>h h1)))
      clear Zy
      have HBX:=Lib.hid (hok h1)
      clear hok
      subst h1
      gi_wp2_with fail
      skip
      have Bo:=bP m5
      have wT:=bP m6
      have He:=bP m7
      have Kt:=bP m8
      have wP:=bP mT
      have Hz:=bP m11
      have m14:eT (W4.alloc (.cells #[U Z 0] 36)) (W4.heap.size) #[U Z 0] 36:=(by have h_:=eP W4 (.cells #[U Z 0] 36);first|exact h_|(simp only [World.size_alloc] at h_;exact h_))
      replace m5:eT (W4.alloc (.cells #[U Z 0] 36)) g5 #[U Z s.nx,U Z s.ny,U Z s.cell,U Z s.slot,U Z s.slots,U Z s.layers,U Z s.most,.slice A7 s.shores.length c7,.slice A8 s.currents.length c8] 25:=(ae m5 _)
      replace m6:eT (W4.alloc (.cells #[U Z 0] 36)) g6 #[U Z v.speed,U Z v.dive,U Z v.use.f0,U Z v.use.f1,U Z v.drift.f0,U Z v.drift.f1,U Z v.reserve] 29:=(ae m6 _)
      replace m7:eT (W4.alloc (.cells #[U Z 0] 36)) g7 #[U Z x.f0.f0,U Z x.f0.f1,U Z x.f1.f0,U Z x.f1.f1] 31:=(ae m7 _)
      replace m8:eT (W4.alloc (.cells #[U Z 0] 36)) g8 #[U Z t] 2:=(ae m8 _)
      replace mT:eT (W4.alloc (.cells #[U Z 0] 36)) g #[U Z s.nx,U Z s.ny,U Z s.cell,U Z s.slot,U Z s.slots,U Z s.layers,U Z s.most,.slice B7 s.shores.length d7,.slice B8 s.currents.length d8,U Z v.speed,U Z v.dive,U Z v.use.f0,U Z v.use.f1,U Z v.drift.f0,U Z v.drift.f1,U Z v.reserve] 110:=(ae mT _)
      replace m11:eT (W4.alloc (.cells #[U Z 0] 36)) g11 #[.pointer (some ⟨g,0,none⟩)] 104:=(ae m11 _)
      replace mB:Below w.heap.size w (W4.alloc (.cells #[U Z 0] 36)):=(aT mB _)
      have jS:w.heap.size≤W4.heap.size:=O3
      generalize qL:(W4.alloc (.cells #[U Z 0] 36)) = W5 at m5 m6 m7 m8 mT m11 m14 mB ⊢
      clear qL
      generalize awk:W4.heap.size = g14 at m14 ⊢
      have M5:g5≠g14:=by omega
      have Be:g6≠g14:=by omega
      have JE:g7≠g14:=by omega
      have JF:g8≠g14:=by omega
      have zB:g≠g14:=by omega
      have EA:g11≠g14:=by omega
      have W9:g14≠g5:=M5.symm
      have Xa:g14≠g6:=Be.symm
      have Dr:g14≠g7:=JE.symm
      have M6:g14≠g8:=JF.symm
      have Xb:g14≠g:=zB.symm
      have ajI:g14≠g11:=EA.symm
      have awl:w.heap.size≤g14:=by omega
      clear jS Bo wT He Kt wP Hz
      try clear awk
      have Rj:w.heap.size≤W5.heap.size:=mB.size
      refine wpIn_loop (fun a_ W=>∃ (k:Nat) (X:dO) (T:Int) (a:Int) (Ds:List Nat) (u_:Nat→Value),a_ = { tmps:=#[(u_ 0),(u_ 1),(u_ 2),(u_ 3),(u_ 4),(u_ 5),.pointer (some ⟨g6,0,none⟩),.pointer (some ⟨g7,0,none⟩),.pointer (some ⟨g8,0,none⟩),(u_ 9),(u_ 10),.pointer (some ⟨g11,0,none⟩),(u_ 12),(u_ 13),.pointer (some ⟨g14,0,none⟩),(u_ 15),(u_ 16),(u_ 17),(u_ 18),(u_ 19),(u_ 20),(u_ 21),(u_ 22),(u_ 23),(u_ 24),(u_ 25),(u_ 26),(u_ 27),(u_ 28),(u_ 29),(u_ 30),(u_ 31),(u_ 32),(u_ 33),(u_ 34),(u_ 35),.slice A l.length c,U Z (l.length:Int),U Z (k:Int),(u_ 39),(u_ 40),(u_ 41),(u_ 42),(u_ 43),(u_ 44),(u_ 45),(u_ 46),(u_ 47),(u_ 48),(u_ 49),(u_ 50),(u_ 51),(u_ 52),(u_ 53),(u_ 54),(u_ 55),(u_ 56),(u_ 57),(u_ 58),(u_ 59),(u_ 60),(u_ 61),(u_ 62),(u_ 63),(u_ 64),(u_ 65),(u_ 66),(u_ 67),(u_ 68),(u_ 69),(u_ 70)],defers:=Ds.map mark }∧k≤l.length∧Hid (CkX s v x t l = ckI s v (l.drop k) X T a)∧Hid (kG X∧0≤T∧T≤1073741824+(k:Int)*131072)∧Marks W w.heap.size Ds∧eT W g6 #[U Z v.speed,U Z v.dive,U Z v.use.f0,U Z v.use.f1,U Z v.drift.f0,U Z v.drift.f1,U Z v.reserve] 29∧eT W g7 #[U Z X.f0.f0,U Z X.f0.f1,U Z X.f1.f0,U Z X.f1.f1] 31∧eT W g8 #[U Z T] 2∧eT W g11 #[.pointer (some ⟨g,0,none⟩)] 104∧eT W g14 #[U Z a] 36∧eT W g #[U Z s.nx,U Z s.ny,U Z s.cell,U Z s.slot,U Z s.slots,U Z s.layers,U Z s.most,.slice B7 s.shores.length d7,.slice B8 s.currents.length d8,U Z v.speed,U Z v.dive,U Z v.use.f0,U Z v.use.f1,U Z v.drift.f0,U Z v.drift.f1,U Z v.reserve] 110∧Below w.heap.size w W) (fun a_ _=>((l.length:Int) - intOf (a_.tmps.getD 38 undef)).toNat) ⟨0,x,t,0,[],(fun k_=>(#[.agg #[U Z s.nx,U Z s.ny,U Z s.cell,U Z s.slot,U Z s.slots,U Z s.layers,U Z s.most,.slice A7 s.shores.length c7,.slice A8 s.currents.length c8],.agg #[U Z v.speed,U Z v.dive,U Z v.use.f0,U Z v.use.f1,U Z v.drift.f0,U Z v.drift.f1,U Z v.reserve],.agg #[U Z x.f0.f0,U Z x.f0.f1,U Z x.f1.f0,U Z x.f1.f1],U Z t,.slice A l.length c,.pointer (some ⟨g5,0,none⟩),.pointer (some ⟨g6,0,none⟩),.pointer (some ⟨g7,0,none⟩),.pointer (some ⟨g8,0,none⟩),undef,U Z 0,.pointer (some ⟨g11,0,none⟩),U Z 0,U Z 0,.pointer (some ⟨g14,0,none⟩),undef,undef,undef,undef,undef,.tuple #[.pointer (some ⟨g,0,none⟩),U Z 0],.agg #[U Z s.nx,U Z s.ny,U Z s.cell,U Z s.slot,U Z s.slots,U Z s.layers,U Z s.most,.slice A7 s.shores.length c7,.slice A8 s.currents.length c8],.agg #[U Z v.speed,U Z v.dive,U Z v.use.f0,U Z v.use.f1,U Z v.drift.f0,U Z v.drift.f1,U Z v.reserve],.agg #[U Z x.f0.f0,U Z x.f0.f1,U Z x.f1.f0,U Z x.f1.f1],U Z t,.tuple #[.pointer (some ⟨g,0,none⟩),U Z 0],.pointer (some ⟨g,0,none⟩),U Z 0,U Z 0,.bool false,undef,.slice A l.length c,U Z 0,U Z 0,.bool false,undef,.slice A l.length c,U Z (l.length:Int),U Z 0,undef,undef,undef,undef,undef,undef,undef,undef,undef,undef,undef,undef,undef,undef,undef,undef,undef,undef,undef,undef,undef,undef,undef,undef,undef,undef,undef,undef,undef,undef,undef,undef]:Array Value).getD k_ undef),rfl,Nat.zero_le _,HX3,Lib.hid ⟨hbx,UR,by omega⟩,Marks.nil _ _,m6,m7,m8,m11,m14,mT,mB⟩ ?_
      clear m5 m6 m7 m8 m11 m14 mT mB hbx UR ZX HX3
      rintro a_ W ⟨k,X,T,a,Ds,u_,rfl,hk,HR,HQ,hM,m6,m7,m8,m11,m14,mT,mB⟩
      have arc:w.heap.size≤W.heap.size:=mB.size
      skip
      by_cases hlt:k < l.length
      case neg =>
       as_aux_lemma =>
        obtain rfl:k = l.length:=by omega
        have HE:=HR.out
        rw [List.drop_length] at HE
        have HZ:Hid (CkX s v x t l = a):=Lib.hid HE
        clear HE HR HQ
        have hnl:¬ ((l.length:Int) < (l.length:Int)):=by omega
        have c14:=(af m14 0).trans rfl
        gi_wp2
        exact oK (fun W_=>Below w.heap.size w W_) (fun W_ D_ h hB hD=>h.trans (belowK_b (w:=w) (Nat.le_refl _) W_ D_ _ _ hB hD rfl rfl)) (fun W_ h=>⟨_,results_tmp rfl _ _ _,o6,h⟩) Ds _ hM mB
      case pos =>
       as_aux_lemma =>
        obtain ⟨ad_,e_,hx0,hx1,hx2,hx3⟩:=uz hC k (by omega) (by omega)
        cases e_
        simp only [Int.toNat_natCast] at hx0 hx1 hx2 hx3
        replace hx0:=(mB.cell (World.block_lt_of_cell? w _ hx0)).trans hx0
        replace hx1:=(mB.cell (World.block_lt_of_cell? w _ hx1)).trans hx1
        replace hx2:=(mB.cell (World.block_lt_of_cell? w _ hx2)).trans hx2
        replace hx3:=(mB.cell (World.block_lt_of_cell? w _ hx3)).trans hx3
        have hdr:l.drop k = bq l (k:Int) :: l.drop (k+1):=by rw [List.drop_eq_getElem_cons hlt];simp [bq,List.getD_eq_getElem?_getD,hlt]
        have hmem:bq l (k:Int) ∈ l:=List.mem_of_getElem? (i:=k) (by simp [bq,List.getD_eq_getElem?_getD,hlt])
        have hto:=HBX.out.2 _ hmem
        clear hmem
        generalize bq l (k:Int) = lH at*
        obtain ⟨hX,hT0,hT1⟩:=HQ.out
        have aru:=HBX.out.1
        have hdv:=hVN.dive
        have HDV:=Lib.hid hdv
        have HR2:Hid (CkX s v x t l = if ig s v X T≠0 then ig s v X T else ckI s v (l.drop (k+1)) lH (T+v.dive) (KO s v X T lH a)):=Lib.hid (by rw [HR.out,hdr];rfl)
        clear HR hdr
        have hkk:((k:Int) < (l.length:Int)):=by omega
        have kR:=fun W (h:jo W g s v)=>Ny g s v X T W h hSV.n hVN hX.1 hT0 (by omega)
        have hro:=fun h=>D7 (t:=T) hSV.n hVN hX h
        have HV:Hid (ig s v X T = 0→wS s v X T = dQ s v X):=Lib.hid (fun h=>if_pos h)
        have HXS:Hid (kG X∧kG lH):=Lib.hid ⟨hX,hto⟩
        have HL:=Lib.hid aru
        clear hdv hX hto aru
        have Hf:∀ o_,(W.alloc o_).cell? ⟨g7,0,none⟩ = some (U Z X.f0.f0):=fun o_=>(af (ae m7 o_) 0).trans rfl
        have Hg:∀ o_,(W.alloc o_).cell? ⟨g7,1,none⟩ = some (U Z X.f0.f1):=fun o_=>(af (ae m7 o_) 1).trans rfl
        have KD:∀ o_,(W.alloc o_).cell? ⟨g7,2,none⟩ = some (U Z X.f1.f0):=fun o_=>(af (ae m7 o_) 2).trans rfl
        have KE:∀ o_,(W.alloc o_).cell? ⟨g7,3,none⟩ = some (U Z X.f1.f1):=fun o_=>(af (ae m7 o_) 3).trans rfl
        have PL:∀ o_,(W.alloc o_).cell? ⟨g8,0,none⟩ = some (U Z T):=fun o_=>(af (ae m8 o_) 0).trans rfl
        have ajJ:∀ o_,(W.alloc o_).cell? ⟨g11,0,none⟩ = some (.pointer (some ⟨g,0,none⟩)):=fun o_=>(af (ae m11 o_) 0).trans rfl
        gi_wp2_with fail
        skip
        clear Hf Hg KD KE PL ajJ
        clear hkk hx0 hx1 hx2 hx3
        replace hM:=hM.below (aT (Below.refl W.heap.size W) (.cells #[U Z lH.f0.f0,U Z lH.f0.f1,U Z lH.f1.f0,U Z lH.f1.f1] 31))
        have wT:=bP m6
        have He:=bP m7
        have Kt:=bP m8
        have Hz:=bP m11
        have R9:=bP m14
        have wP:=bP mT
        have m16:eT (W.alloc (.cells #[U Z lH.f0.f0,U Z lH.f0.f1,U Z lH.f1.f0,U Z lH.f1.f1] 31)) (W.heap.size) #[U Z lH.f0.f0,U Z lH.f0.f1,U Z lH.f1.f0,U Z lH.f1.f1] 31:=(by have h_:=eP W (.cells #[U Z lH.f0.f0,U Z lH.f0.f1,U Z lH.f1.f0,U Z lH.f1.f1] 31);first|exact h_|(simp only [World.size_alloc] at h_;exact h_))
        replace m6:eT (W.alloc (.cells #[U Z lH.f0.f0,U Z lH.f0.f1,U Z lH.f1.f0,U Z lH.f1.f1] 31)) g6 #[U Z v.speed,U Z v.dive,U Z v.use.f0,U Z v.use.f1,U Z v.drift.f0,U Z v.drift.f1,U Z v.reserve] 29:=(ae m6 _)
        replace m7:eT (W.alloc (.cells #[U Z lH.f0.f0,U Z lH.f0.f1,U Z lH.f1.f0,U Z lH.f1.f1] 31)) g7 #[U Z X.f0.f0,U Z X.f0.f1,U Z X.f1.f0,U Z X.f1.f1] 31:=(ae m7 _)
        replace m8:eT (W.alloc (.cells #[U Z lH.f0.f0,U Z lH.f0.f1,U Z lH.f1.f0,U Z lH.f1.f1] 31)) g8 #[U Z T] 2:=(ae m8 _)
        replace m11:eT (W.alloc (.cells #[U Z lH.f0.f0,U Z lH.f0.f1,U Z lH.f1.f0,U Z lH.f1.f1] 31)) g11 #[.pointer (some ⟨g,0,none⟩)] 104:=(ae m11 _)
        replace m14:eT (W.alloc (.cells #[U Z lH.f0.f0,U Z lH.f0.f1,U Z lH.f1.f0,U Z lH.f1.f1] 31)) g14 #[U Z a] 36:=(ae m14 _)
        replace mT:eT (W.alloc (.cells #[U Z lH.f0.f0,U Z lH.f0.f1,U Z lH.f1.f0,U Z lH.f1.f1] 31)) g #[U Z s.nx,U Z s.ny,U Z s.cell,U Z s.slot,U Z s.slots,U Z s.layers,U Z s.most,.slice B7 s.shores.length d7,.slice B8 s.currents.length d8,U Z v.speed,U Z v.dive,U Z v.use.f0,U Z v.use.f1,U Z v.drift.f0,U Z v.drift.f1,U Z v.reserve] 110:=(ae mT _)
        replace mB:Below w.heap.size w (W.alloc (.cells #[U Z lH.f0.f0,U Z lH.f0.f1,U Z lH.f1.f0,U Z lH.f1.f1] 31)):=(aT mB _)
        have jS:w.heap.size≤W.heap.size:=arc
        generalize qL:(W.alloc (.cells #[U Z lH.f0.f0,U Z lH.f0.f1,U Z lH.f1.f0,U Z lH.f1.f1] 31)) = Wa at m6 m7 m8 m11 m14 mT m16 mB hM ⊢
        clear qL
        generalize awm:W.heap.size = g16 at m16 ⊢
        have um:g6≠g16:=by omega
        have aek:g7≠g16:=by omega
        have ael:g8≠g16:=by omega
        have Y1:g11≠g16:=by omega
        have qb:g14≠g16:=by omega
        have M7:g≠g16:=by omega
        have Xc:g16≠g6:=um.symm
        have mf:g16≠g7:=aek.symm
        have Q3:g16≠g8:=ael.symm
        have ajK:g16≠g11:=Y1.symm
        have BX:g16≠g14:=qb.symm
        have Xd:g16≠g:=M7.symm
        have Xe:w.heap.size≤g16:=by omega
        clear jS wT He Kt Hz R9 wP
        try clear awm
        have aSD:w.heap.size≤Wa.heap.size:=mB.size
        have hcon:=kR Wa (HTA.out _ mB mT)
        refine ⟨trivial,(callsIn_wide.2 hcon).mono ?_⟩
        clear hcon
        rintro e Wb ⟨rfl,hb⟩
        replace hM:=hM.below hb
        replace m6:=av m6 hb
        replace m7:=av m7 hb
        replace m8:=av m8 hb
        replace m11:=av m11 hb
        replace m14:=av m14 hb
        replace mT:=av mT hb
        replace m16:=av m16 hb
        replace mB:=bO mB hb
        clear hb
        have aEB:w.heap.size≤Wb.heap.size:=mB.size
        clear kR
        generalize ig s v X T = E at*
        generalize wS s v X T = G at*
        by_cases hE:E = 0
        case neg =>
         as_aux_lemma =>
          have HZ:=Lib.hid (HR2.out.trans (if_pos hE))
          have hd1:(E == 0) = false:=beq_eq_false_iff_ne.2 hE
          have hd2:(E != 0) = true:=by rw [bne,hd1];rfl
          clear hE HR2 hro
          gi_wp2
          exact oK (fun W_=>Below w.heap.size w W_) (fun W_ D_ h hB hD=>h.trans (belowK_b (w:=w) (Nat.le_refl _) W_ D_ _ _ hB hD rfl rfl)) (fun W_ h=>⟨_,results_tmp rfl _ _ _,o6,h⟩) Ds _ (hM.below (aT (Below.refl _ _) _)) (aT mB _)
        case pos =>
         as_aux_lemma =>
          have HR3:=Lib.hid (HR2.out.trans (if_neg (fun h=>h hE)))
          obtain ⟨hin,⟨_,htd⟩,_⟩:=hro hE
          have hG:=HV.out hE
          clear HR2 hro HV
          subst hE
          subst hG
          have hla:=hSV.n.layers
          have kE:=fun W hd layer (h:jo W g s v) (h0:0≤hd) (h1:hd≤8) (h2:0≤layer) (h3:layer < s.layers)=>Ra g s v X (dQ s v X) T hd layer W h hSV.n hVN hSV.cu hSV.cb HXS.out.1.1 hin hT0 htd h0 h1 h2 h3
          have HST:Hid (KO s v X T lH a = GD s v X (dQ s v X) T lH a (MX s)):=Lib.hid rfl
          generalize KO s v X T lH a = a2 at*
          generalize dQ s v X = G at*
          have Hf:∀ o_,(Wb.alloc o_).cell? ⟨g7,0,none⟩ = some (U Z X.f0.f0):=fun o_=>(af (ae m7 o_) 0).trans rfl
          have Hg:∀ o_,(Wb.alloc o_).cell? ⟨g7,1,none⟩ = some (U Z X.f0.f1):=fun o_=>(af (ae m7 o_) 1).trans rfl
          have KD:∀ o_,(Wb.alloc o_).cell? ⟨g7,2,none⟩ = some (U Z X.f1.f0):=fun o_=>(af (ae m7 o_) 2).trans rfl
          have KE:∀ o_,(Wb.alloc o_).cell? ⟨g7,3,none⟩ = some (U Z X.f1.f1):=fun o_=>(af (ae m7 o_) 3).trans rfl
          have PL:∀ o_,(Wb.alloc o_).cell? ⟨g8,0,none⟩ = some (U Z T):=fun o_=>(af (ae m8 o_) 0).trans rfl
          have ajJ:∀ o_,(Wb.alloc o_).cell? ⟨g11,0,none⟩ = some (.pointer (some ⟨g,0,none⟩)):=fun o_=>(af (ae m11 o_) 0).trans rfl
          gi_wp2_with fail
          clear Hf Hg KD KE PL ajJ
          skip
          replace hM:=hM.below (aT (Below.refl Wb.heap.size Wb) (.cells #[U Z G.f0.f0,U Z G.f0.f1,U Z G.f1.f0,U Z G.f1.f1] 31))
          have wT:=bP m6
          have He:=bP m7
          have Kt:=bP m8
          have Hz:=bP m11
          have R9:=bP m14
          have wP:=bP mT
          have ajL:=bP m16
          have m17:eT (Wb.alloc (.cells #[U Z G.f0.f0,U Z G.f0.f1,U Z G.f1.f0,U Z G.f1.f1] 31)) (Wb.heap.size) #[U Z G.f0.f0,U Z G.f0.f1,U Z G.f1.f0,U Z G.f1.f1] 31:=(by have h_:=eP Wb (.cells #[U Z G.f0.f0,U Z G.f0.f1,U Z G.f1.f0,U Z G.f1.f1] 31);first|exact h_|(simp only [World.size_alloc] at h_;exact h_))
          replace m6:eT (Wb.alloc (.cells #[U Z G.f0.f0,U Z G.f0.f1,U Z G.f1.f0,U Z G.f1.f1] 31)) g6 #[U Z v.speed,U Z v.dive,U Z v.use.f0,U Z v.use.f1,U Z v.drift.f0,U Z v.drift.f1,U Z v.reserve] 29:=(ae m6 _)
          replace m7:eT (Wb.alloc (.cells #[U Z G.f0.f0,U Z G.f0.f1,U Z G.f1.f0,U Z G.f1.f1] 31)) g7 #[U Z X.f0.f0,U Z X.f0.f1,U Z X.f1.f0,U Z X.f1.f1] 31:=(ae m7 _)
          replace m8:eT (Wb.alloc (.cells #[U Z G.f0.f0,U Z G.f0.f1,U Z G.f1.f0,U Z G.f1.f1] 31)) g8 #[U Z T] 2:=(ae m8 _)
          replace m11:eT (Wb.alloc (.cells #[U Z G.f0.f0,U Z G.f0.f1,U Z G.f1.f0,U Z G.f1.f1] 31)) g11 #[.pointer (some ⟨g,0,none⟩)] 104:=(ae m11 _)
          replace m14:eT (Wb.alloc (.cells #[U Z G.f0.f0,U Z G.f0.f1,U Z G.f1.f0,U Z G.f1.f1] 31)) g14 #[U Z a] 36:=(ae m14 _)
          replace mT:eT (Wb.alloc (.cells #[U Z G.f0.f0,U Z G.f0.f1,U Z G.f1.f0,U Z G.f1.f1] 31)) g #[U Z s.nx,U Z s.ny,U Z s.cell,U Z s.slot,U Z s.slots,U Z s.layers,U Z s.most,.slice B7 s.shores.length d7,.slice B8 s.currents.length d8,U Z v.speed,U Z v.dive,U Z v.use.f0,U Z v.use.f1,U Z v.drift.f0,U Z v.drift.f1,U Z v.reserve] 110:=(ae mT _)
          replace m16:eT (Wb.alloc (.cells #[U Z G.f0.f0,U Z G.f0.f1,U Z G.f1.f0,U Z G.f1.f1] 31)) g16 #[U Z lH.f0.f0,U Z lH.f0.f1,U Z lH.f1.f0,U Z lH.f1.f1] 31:=(ae m16 _)
          replace mB:Below w.heap.size w (Wb.alloc (.cells #[U Z G.f0.f0,U Z G.f0.f1,U Z G.f1.f0,U Z G.f1.f1] 31)):=(aT mB _)
          have jS:w.heap.size≤Wb.heap.size:=aEB
          generalize qL:(Wb.alloc (.cells #[U Z G.f0.f0,U Z G.f0.f1,U Z G.f1.f0,U Z G.f1.f1] 31)) = Wc at m6 m7 m8 m11 m14 mT m16 m17 mB hM ⊢
          clear qL
          generalize aPC:Wb.heap.size = g17 at m17 ⊢
          have aem:g6≠g17:=by omega
          have aen:g7≠g17:=by omega
          have aeo:g8≠g17:=by omega
          have Y2:g11≠g17:=by omega
          have Y3:g14≠g17:=by omega
          have aep:g≠g17:=by omega
          have Y4:g16≠g17:=by omega
          have arv:g17≠g6:=aem.symm
          have arw:g17≠g7:=aen.symm
          have arx:g17≠g8:=aeo.symm
          have ajM:g17≠g11:=Y2.symm
          have Ij:g17≠g14:=Y3.symm
          have ary:g17≠g:=aep.symm
          have ajN:g17≠g16:=Y4.symm
          have aU1:w.heap.size≤g17:=by omega
          clear jS wT He Kt Hz R9 wP ajL
          try clear aPC
          have aEC:w.heap.size≤Wc.heap.size:=mB.size
          have hcon:=Ps g Wc
          refine ⟨trivial,(callsIn_wide.2 hcon).mono ?_⟩
          clear hcon
          rintro e _ ⟨rfl,rfl⟩
          gi_wp2_with fail
          replace hM:=hM.below (aT (Below.refl Wc.heap.size Wc) (.cells #[.pointer (some ⟨g,0,none⟩)] 104))
          have wT:=bP m6
          have He:=bP m7
          have Kt:=bP m8
          have Hz:=bP m11
          have R9:=bP m14
          have wP:=bP mT
          have ajL:=bP m16
          have aED:=bP m17
          have mP:eT (Wc.alloc (.cells #[.pointer (some ⟨g,0,none⟩)] 104)) (Wc.heap.size) #[.pointer (some ⟨g,0,none⟩)] 104:=(by have h_:=eP Wc (.cells #[.pointer (some ⟨g,0,none⟩)] 104);first|exact h_|(simp only [World.size_alloc] at h_;exact h_))
          replace m6:eT (Wc.alloc (.cells #[.pointer (some ⟨g,0,none⟩)] 104)) g6 #[U Z v.speed,U Z v.dive,U Z v.use.f0,U Z v.use.f1,U Z v.drift.f0,U Z v.drift.f1,U Z v.reserve] 29:=(ae m6 _)
          replace m7:eT (Wc.alloc (.cells #[.pointer (some ⟨g,0,none⟩)] 104)) g7 #[U Z X.f0.f0,U Z X.f0.f1,U Z X.f1.f0,U Z X.f1.f1] 31:=(ae m7 _)
          replace m8:eT (Wc.alloc (.cells #[.pointer (some ⟨g,0,none⟩)] 104)) g8 #[U Z T] 2:=(ae m8 _)
          replace m11:eT (Wc.alloc (.cells #[.pointer (some ⟨g,0,none⟩)] 104)) g11 #[.pointer (some ⟨g,0,none⟩)] 104:=(ae m11 _)
          replace m14:eT (Wc.alloc (.cells #[.pointer (some ⟨g,0,none⟩)] 104)) g14 #[U Z a] 36:=(ae m14 _)
          replace mT:eT (Wc.alloc (.cells #[.pointer (some ⟨g,0,none⟩)] 104)) g #[U Z s.nx,U Z s.ny,U Z s.cell,U Z s.slot,U Z s.slots,U Z s.layers,U Z s.most,.slice B7 s.shores.length d7,.slice B8 s.currents.length d8,U Z v.speed,U Z v.dive,U Z v.use.f0,U Z v.use.f1,U Z v.drift.f0,U Z v.drift.f1,U Z v.reserve] 110:=(ae mT _)
          replace m16:eT (Wc.alloc (.cells #[.pointer (some ⟨g,0,none⟩)] 104)) g16 #[U Z lH.f0.f0,U Z lH.f0.f1,U Z lH.f1.f0,U Z lH.f1.f1] 31:=(ae m16 _)
          replace m17:eT (Wc.alloc (.cells #[.pointer (some ⟨g,0,none⟩)] 104)) g17 #[U Z G.f0.f0,U Z G.f0.f1,U Z G.f1.f0,U Z G.f1.f1] 31:=(ae m17 _)
          replace mB:Below w.heap.size w (Wc.alloc (.cells #[.pointer (some ⟨g,0,none⟩)] 104)):=(aT mB _)
          have jS:w.heap.size≤Wc.heap.size:=aEC
          generalize qL:(Wc.alloc (.cells #[.pointer (some ⟨g,0,none⟩)] 104)) = W0 at m6 m7 m8 m11 m14 mT m16 m17 mP mB hM ⊢
          clear qL
          generalize hgP:Wc.heap.size = gP at mP ⊢
          have H9:g6≠gP:=by omega
          have ajO:g7≠gP:=by omega
          have ajP:g8≠gP:=by omega
          have M0:g11≠gP:=by omega
          have M8:g14≠gP:=by omega
          have Sa:g≠gP:=by omega
          have aeq:g16≠gP:=by omega
          have aer:g17≠gP:=by omega
          have RU:gP≠g6:=H9.symm
          have awn:gP≠g7:=ajO.symm
          have awo:gP≠g8:=ajP.symm
          have WU:gP≠g11:=M0.symm
          have GG:gP≠g14:=M8.symm
          have aaP:gP≠g:=Sa.symm
          have arz:gP≠g16:=aeq.symm
          have arA:gP≠g17:=aer.symm
          have hGP:w.heap.size≤gP:=by omega
          clear jS wT He Kt Hz R9 wP ajL aED
          try clear hgP
          have BQ:w.heap.size≤W0.heap.size:=mB.size
          skip
          have hDs:∀ D_ ∈ Ds,D_ < W0.heap.size:=fun D_ h=>(Array.getElem?_eq_some_iff.1 (hM.2 D_ h).2).1
          have HN:Hid (g6≠g14∧g7≠g14∧g8≠g14∧g11≠g14∧g16≠g14∧g17≠g14∧g≠g14∧gP≠g14∧g6≠g7∧g8≠g7∧g11≠g7∧g14≠g7∧g≠g7∧g16≠g7∧g6≠g8∧g7≠g8∧g11≠g8∧g14≠g8∧g≠g8∧g16≠g8):=Lib.hid ⟨Be,JE,JF,EA,BX,Ij,zB,GG,iy,nC,Dq,Dr,wQ,mf,Ih,zP,M4,M6,Ii,Q3⟩
          try clear KP EO wQ Ii Af zB M7 aep
          try clear Sa
          try clear WZ
          try clear o7 DC Nz MZ M5 zC aMK
          try clear OB
          try clear Rb
          try clear lC iy Ih sS Be um aem
          try clear H9
          try clear ZJ
          try clear Ri Rc zP Ag JE aek aen
          try clear ajO
          try clear ajH
          try clear ZL ajG nC aej JF ael aeo
          try clear ajP
          try clear art
          try clear WQ WR Dq M4 EA Y1 Y2
          try clear M0
          try clear Xb
          try clear W9 Xa Dr M6 ajI qb Y3
          try clear M8
          try clear Xd
          try clear aes Xc mf Q3 ajK BX Y4
          try clear aeq
          try clear ary
          try clear aML arv arw arx ajM Ij ajN
          try clear aer
          try clear aaP
          try clear WT RU awn awo WU GG arz arA
          refine wpIn_rangeFunc_ownH rfl (by omega) (gf:=129) (lb:=#[.pointer (some ⟨gP,0,none⟩)]) rfl trivial (enters_of Try.func129 aY rfl)
           (encs:=fun c:WN s=>#[.agg #[U Z c.1.f0,U Z c.1.f1]]) (Kp:=WY w g gP #[U Z s.nx,U Z s.ny,U Z s.cell,U Z s.slot,U Z s.slots,U Z s.layers,U Z s.most,.slice B7 s.shores.length d7,.slice B8 s.currents.length d8,U Z v.speed,U Z v.dive,U Z v.use.f0,U Z v.use.f1,U Z v.drift.f0,U Z v.drift.f1,U Z v.reserve]) (S:=arb s) (Sp:=av8 s) (N:=(MX s).length) (w0:=W0)
           (fun l J Jx X_ hW hJ _ hY h0=>Pt 6 (by omega) l gP g s v (fun W=>Below w.heap.size w W∧eT W g #[U Z s.nx,U Z s.ny,U Z s.cell,U Z s.slot,U Z s.slots,U Z s.layers,U Z s.most,.slice B7 s.shores.length d7,.slice B8 s.currents.length d8,U Z v.speed,U Z v.dive,U Z v.use.f0,U Z v.use.f1,U Z v.drift.f0,U Z v.drift.f1,U Z v.reserve] 110∧eT W gP #[.pointer (some ⟨g,0,none⟩)] 104) (fun W h=>⟨HTA.out W h.1 h.2.1,h.2.2⟩) hSV.n (WY w g gP #[U Z s.nx,U Z s.ny,U Z s.cell,U Z s.slot,U Z s.slots,U Z s.layers,U Z s.most,.slice B7 s.shores.length d7,.slice B8 s.currents.length d8,U Z v.speed,U Z v.dive,U Z v.use.f0,U Z v.use.f1,U Z v.drift.f0,U Z v.drift.f1,U Z v.reserve]) (fun A B h hE=>⟨hE.1.trans h.1,h.2.1 hE.2.1,h.2.2 hE.2.2⟩) J Jx hY X_ ⟨bO mB hW,eT.zZ mT hW,eT.zZ mP hW⟩ h0) WY.trans (WY.put BQ (bP mT) (bP mP)) (Below.refl _ _) (fun _=>rfl)
           (fun pre W=>eT W g6 #[U Z v.speed,U Z v.dive,U Z v.use.f0,U Z v.use.f1,U Z v.drift.f0,U Z v.drift.f1,U Z v.reserve] 29∧eT W g7 #[U Z X.f0.f0,U Z X.f0.f1,U Z X.f1.f0,U Z X.f1.f1] 31∧eT W g8 #[U Z T] 2∧eT W g11 #[.pointer (some ⟨g,0,none⟩)] 104∧eT W g16 #[U Z lH.f0.f0,U Z lH.f0.f1,U Z lH.f1.f0,U Z lH.f1.f1] 31∧eT W g17 #[U Z G.f0.f0,U Z G.f0.f1,U Z G.f1.f0,U Z G.f1.f1] 31∧eT W g #[U Z s.nx,U Z s.ny,U Z s.cell,U Z s.slot,U Z s.slots,U Z s.layers,U Z s.most,.slice B7 s.shores.length d7,.slice B8 s.currents.length d8,U Z v.speed,U Z v.dive,U Z v.use.f0,U Z v.use.f1,U Z v.drift.f0,U Z v.drift.f1,U Z v.reserve] 110∧eT W g14 #[U Z (GD s v X G T lH a (pre.map Subtype.val))] 36∧Marks W w.heap.size Ds∧Below w.heap.size w W)
           (fun c pre W=>False)
           (OwnFrom.and (ib _ _ (fun _=>_) _) (OwnFrom.and (ib _ _ (fun _=>_) _) (OwnFrom.and (ib _ _ (fun _=>_) _) (OwnFrom.and (ib _ _ (fun _=>_) _) (OwnFrom.and (ib _ _ (fun _=>_) _) (OwnFrom.and (ib _ _ (fun _=>_) _) (OwnFrom.and (ib _ _ (fun _=>_) _) (OwnFrom.and (ib _ _ (fun pre:List (WN s)=>#[U Z (GD s v X G T lH a (pre.map Subtype.val))]) _) (OwnFrom.and (DW _ _ Ds hDs) (ownFrom_below (by omega) (by omega)))))))))))
           (fun c pre X Y row hs hg hr=>hs)
           ⟨m6,m7,m8,m11,m16,m17,mT,m14,hM,mB⟩
           (fun c a' W=>∃ (g19:Nat) (u_:Nat→Value),a' = { tmps:=#[(u_ 0),(u_ 1),(u_ 2),(u_ 3),(u_ 4),(u_ 5),.pointer (some ⟨g6,0,none⟩),.pointer (some ⟨g7,0,none⟩),.pointer (some ⟨g8,0,none⟩),(u_ 9),(u_ 10),.pointer (some ⟨g11,0,none⟩),(u_ 12),(u_ 13),.pointer (some ⟨g14,0,none⟩),(u_ 15),.pointer (some ⟨g16,0,none⟩),.pointer (some ⟨g17,0,none⟩),(u_ 18),.pointer (some ⟨g19,0,none⟩),(u_ 20),(u_ 21),(u_ 22),(u_ 23),(u_ 24),(u_ 25),(u_ 26),(u_ 27),(u_ 28),(u_ 29),(u_ 30),(u_ 31),(u_ 32),(u_ 33),(u_ 34),(u_ 35),(u_ 36),(u_ 37),(u_ 38),(u_ 39),(u_ 40),(u_ 41),(u_ 42),(u_ 43),(u_ 44),(u_ 45),(u_ 46),(u_ 47),(u_ 48),(u_ 49),(u_ 50),(u_ 51),(u_ 52),(u_ 53),(u_ 54),(u_ 55),(u_ 56),(u_ 57),(u_ 58),(u_ 59),(u_ 60),(u_ 61),(u_ 62),(u_ 63),(u_ 64),(u_ 65),(u_ 66),(u_ 67),(u_ 68),(u_ 69),(u_ 70)],defers:=[] }∧eT W g19 #[U Z c.1.f0,U Z c.1.f1] 33)
           (fun c a' s X Y row hs hg hr=>by obtain ⟨g19,u_,h1,h2⟩:=hs;exact ⟨g19,u_,h1,Gx h2 hg hr⟩) ?assign ?body ?done ?stop
          case assign =>
           as_aux_lemma =>
            rintro l_ pre q X_ K ⟨m6,m7,m8,m11,m16,m17,mT,m14,hM,mB⟩ hK
            gi_wp2
            skip
            have hb:=aT (Below.refl X_.heap.size X_) (.cells #[U Z q.1.f0,U Z q.1.f1] 33)
            exact hK _ _ (mh hb) (WY.below mB.size hb) ⟨av m6 hb,av m7 hb,av m8 hb,av m11 hb,av m16 hb,av m17 hb,av mT hb,av m14 hb,hM.below hb,bO mB hb⟩ ⟨X_.heap.size,(fun k_=>(#[(u_ 0),(u_ 1),(u_ 2),(u_ 3),(u_ 4),(u_ 5),.pointer (some ⟨g6,0,none⟩),.pointer (some ⟨g7,0,none⟩),.pointer (some ⟨g8,0,none⟩),(u_ 9),(u_ 10),.pointer (some ⟨g11,0,none⟩),(u_ 12),(u_ 13),.pointer (some ⟨g14,0,none⟩),(u_ 15),.pointer (some ⟨g16,0,none⟩),.pointer (some ⟨g17,0,none⟩),U Z 0,.pointer (some ⟨X_.heap.size,0,none⟩),(u_ 20),(u_ 21),(u_ 22),(u_ 23),(u_ 24),(u_ 25),(u_ 26),(u_ 27),(u_ 28),(u_ 29),(u_ 30),(u_ 31),(u_ 32),(u_ 33),(u_ 34),(u_ 35),.slice (some ad_) l.length c,U Z (l.length:Int),U Z (k:Int),.bool true,.pointer (some (ad_.add (k*4))),.agg #[U Z lH.f0.f0,U Z lH.f0.f1,U Z lH.f1.f0,U Z lH.f1.f1],.tuple #[.agg #[U Z G.f0.f0,U Z G.f0.f1,U Z G.f1.f0,U Z G.f1.f1],U Z 0],.pointer (some ⟨g,0,none⟩),.agg #[U Z X.f0.f0,U Z X.f0.f1,U Z X.f1.f0,U Z X.f1.f1],U Z T,.tuple #[.agg #[U Z G.f0.f0,U Z G.f0.f1,U Z G.f1.f0,U Z G.f1.f1],U Z 0],.agg #[U Z G.f0.f0,U Z G.f0.f1,U Z G.f1.f0,U Z G.f1.f1],U Z 0,U Z 0,.bool false,(u_ 51),.pointer (some ⟨g,0,none⟩),.func (.func 129) #[] #[.pointer (some ⟨gP,0,none⟩)],.agg #[U Z q.1.f0,U Z q.1.f1],(u_ 55),(u_ 56),(u_ 57),(u_ 58),(u_ 59),(u_ 60),(u_ 61),(u_ 62),(u_ 63),(u_ 64),(u_ 65),(u_ 66),(u_ 67),(u_ 68),(u_ 69),(u_ 70)]:Array Value).getD k_ undef),rfl,eP _ _⟩
          case stop =>
           rintro D_ c pre X_ hD hp h hK
           exact h.elim
          case body =>
           as_aux_lemma =>
            rintro l_ pre q a_ X_ hlW ⟨r,hr⟩ ⟨m6,m7,m8,m11,m16,m17,mT,m14,hM,mB⟩ ⟨g19,u_,rfl,m19⟩ hlen
            have hXs:W0.heap.size≤X_.heap.size:=Nat.le_trans hlW (Nat.le_of_lt (bP hr))
            clear hr
            have hN:Below X_.heap.size X_ X_:=Below.refl _ _
            have hmap:(GD s v X G T lH a ((pre++[q]).map Subtype.val)) = if BU (kP s v X G T q.1.f0 q.1.f1) lH = 2 then (GD s v X G T lH a (pre.map Subtype.val)) else 16:=by rw [List.map_append,List.map_singleton,Uj]
            have HM:=Lib.hid hmap
            clear hmap
            have kEc:=fun W (h:jo W g s v)=>kE W q.1.f0 q.1.f1 h q.2.1.1 q.2.1.2 q.2.2.1 q.2.2.2
            clear kE
            generalize kP s v X G T q.1.f0 q.1.f1 = E at*
            generalize (GD s v X G T lH a (pre.map Subtype.val)) = P at*
            have kH:=fun W=>RZ E lH W
            generalize BU E lH = y at*
            obtain ⟨⟨c0,c1⟩,c2⟩:=q
            dsimp only at m19
            gi_wp2_with fail
            skip
            replace m6:=ag m6
            replace m7:=ag m7
            replace m8:=ag m8
            replace m11:=ag m11
            replace m16:=ag m16
            replace m17:=ag m17
            replace mT:=ag mT
            replace m14:=ag m14
            replace m19:=ag m19
            replace mB:=bU mB
            replace hM:=hM.below (bU (Below.refl _ X_))
            replace hN:=bU hN
            have hmx:Try.prog.follows .mixedOrders = true:=by kernel_rfl
            refine RV (m:=9) (S:=fun w'=>w'.cell? ⟨g11,0,none⟩ = some (.pointer (some ⟨g,0,none⟩))∧w'.cell? ⟨g7,0,none⟩ = some (U Z X.f0.f0)∧w'.cell? ⟨g7,1,none⟩ = some (U Z X.f0.f1)∧w'.cell? ⟨g7,2,none⟩ = some (U Z X.f1.f0)∧w'.cell? ⟨g7,3,none⟩ = some (U Z X.f1.f1)∧w'.cell? ⟨g17,0,none⟩ = some (U Z G.f0.f0)∧w'.cell? ⟨g17,1,none⟩ = some (U Z G.f0.f1)∧w'.cell? ⟨g17,2,none⟩ = some (U Z G.f1.f0)∧w'.cell? ⟨g17,3,none⟩ = some (U Z G.f1.f1)∧w'.cell? ⟨g8,0,none⟩ = some (U Z T)∧w'.cell? ⟨g19,0,none⟩ = some (U Z c0)∧w'.cell? ⟨g19,1,none⟩ = some (U Z c1)∧w'.cell? ⟨g16,0,none⟩ = some (U Z lH.f0.f0)∧w'.cell? ⟨g16,1,none⟩ = some (U Z lH.f0.f1)∧w'.cell? ⟨g16,2,none⟩ = some (U Z lH.f1.f0)∧w'.cell? ⟨g16,3,none⟩ = some (U Z lH.f1.f1)) (ds:=[]) #[ac,ac,ac,ac,ac,ac,ac,ac,ac] aY (M9 (z8 Gy)) aY rfl rfl ⟨((af m11 0).trans rfl),((af m7 0).trans rfl),((af m7 1).trans rfl),((af m7 2).trans rfl),((af m7 3).trans rfl),((af m17 0).trans rfl),((af m17 1).trans rfl),((af m17 2).trans rfl),((af m17 3).trans rfl),((af m8 0).trans rfl),((af m19 0).trans rfl),((af m19 1).trans rfl),((af m16 0).trans rfl),((af m16 1).trans rfl),((af m16 2).trans rfl),((af m16 3).trans rfl)⟩ (fun hHeld=>?_)
            generalize hWd:World.drew _ = Wx at m6 m7 m8 m11 m16 m17 mT m14 m19 hM hN mB hHeld ⊢
            clear hWd
            refine ja (i:=0) (N:=some 55) aY hHeld ?_
            refine ja (i:=1) (N:=some 56) aY hHeld ?_
            refine ja (i:=2) (N:=some 57) aY hHeld ?_
            refine ja (i:=3) (N:=some 58) aY hHeld ?_
            refine ja (i:=4) (N:=some 59) aY hHeld ?_
            refine ja (i:=6) (N:=some 61) aY hHeld ?_
            refine jJ (i:=5) (N:=some 60) #[ab,ab,ab,ab,ab,ab,ab,ac,ac] rfl rfl aY (by decide) (fun K hK=>?_)
            have kF:=kEc Wx (HTA.out _ mB mT)
            refine gQ Try.func101 aY rfl #[.pointer (some ⟨g,0,none⟩),.agg #[U Z X.f0.f0,U Z X.f0.f1,U Z X.f1.f0,U Z X.f1.f1],.agg #[U Z G.f0.f0,U Z G.f0.f1,U Z G.f1.f0,U Z G.f1.f1],U Z T,.agg #[U Z c0,U Z c1]] (by rfl) rfl rfl PK ?_
            with_reducible refine (kF).mono ?_
            rintro e w5 ⟨rfl,hb⟩
            refine ⟨_,rfl,?_⟩
            clear kF
            replace hM:=hM.below hb
            replace hN:=bO hN hb
            replace m6:=av m6 hb
            replace m7:=av m7 hb
            replace m8:=av m8 hb
            replace m11:=av m11 hb
            replace m16:=av m16 hb
            replace m17:=av m17 hb
            replace mT:=av mT hb
            replace m14:=av m14 hb
            replace m19:=av m19 hb
            replace mB:=bO mB hb
            clear hb
            refine hK.out _ _ ⟨((af m11 0).trans rfl),((af m7 0).trans rfl),((af m7 1).trans rfl),((af m7 2).trans rfl),((af m7 3).trans rfl),((af m17 0).trans rfl),((af m17 1).trans rfl),((af m17 2).trans rfl),((af m17 3).trans rfl),((af m8 0).trans rfl),((af m19 0).trans rfl),((af m19 1).trans rfl),((af m16 0).trans rfl),((af m16 1).trans rfl),((af m16 2).trans rfl),((af m16 3).trans rfl)⟩ (fun hHeld=>?_)
            clear hK K
            refine eY (by show Act.put _ (some 60) _ = _;simp only [Act.put,List.setIfInBounds_toArray,List.set_cons_zero,List.set_cons_succ,eB,eH];rfl) ?_
            refine jJ (i:=7) (N:=some 62) #[ab,ab,ab,ab,ab,ab,ab,ab,ac] rfl rfl aY (by decide) (fun K hK=>?_)
            have kF:=kH w5
            refine gQ Try.func89 aY rfl #[.agg #[U Z E.f0.f0,U Z E.f0.f1,U Z E.f1.f0,U Z E.f1.f1],.agg #[U Z lH.f0.f0,U Z lH.f0.f1,U Z lH.f1.f0,U Z lH.f1.f1]] (by rfl) rfl rfl PK ?_
            with_reducible refine (kF).mono ?_
            rintro e w7 ⟨rfl,hb⟩
            refine ⟨_,rfl,?_⟩
            clear kF
            replace hM:=hM.below hb
            replace hN:=bO hN hb
            replace m6:=av m6 hb
            replace m7:=av m7 hb
            replace m8:=av m8 hb
            replace m11:=av m11 hb
            replace m16:=av m16 hb
            replace m17:=av m17 hb
            replace mT:=av mT hb
            replace m14:=av m14 hb
            replace m19:=av m19 hb
            replace mB:=bO mB hb
            clear hb
            refine hK.out _ _ ⟨((af m11 0).trans rfl),((af m7 0).trans rfl),((af m7 1).trans rfl),((af m7 2).trans rfl),((af m7 3).trans rfl),((af m17 0).trans rfl),((af m17 1).trans rfl),((af m17 2).trans rfl),((af m17 3).trans rfl),((af m8 0).trans rfl),((af m19 0).trans rfl),((af m19 1).trans rfl),((af m16 0).trans rfl),((af m16 1).trans rfl),((af m16 2).trans rfl),((af m16 3).trans rfl)⟩ (fun hHeld=>?_)
            clear hK K
            refine eY (by show Act.put _ (some 62) _ = _;simp only [Act.put,List.setIfInBounds_toArray,List.set_cons_zero,List.set_cons_succ,eB,eH];rfl) ?_
            refine dW (i:=8) (N:=some 63) aY ?_
            refine lI aY ?_
            try clear hHeld
            skip
            by_cases hy:y = 2
            case pos =>
             as_aux_lemma =>
              have hd1:(y == 2) = true:=by rw [hy];rfl
              have hd2:(y != 2) = false:=by rw [bne,hd1];rfl
              have HM2:=Lib.hid (HM.out.trans (if_pos hy))
              clear hy HM
              gi_wp2
              skip
              refine ⟨mh hN,WY.below (Nat.le_trans BQ hXs) hN,?_⟩
              dsimp only
              rw [HM2.out]
              exact ⟨m6,m7,m8,m11,m16,m17,mT,m14,hM,mB⟩
            case neg =>
             as_aux_lemma =>
              have hd1:(y == 2) = false:=beq_eq_false_iff_ne.2 hy
              have hd2:(y != 2) = true:=by rw [bne,hd1];rfl
              have HM2:=Lib.hid (HM.out.trans (if_neg hy))
              clear hy HM
              have c14:=(af m14 0).trans rfl
              have f14:=bn m14 0
              gi_wp2
              skip
              obtain ⟨Be,JE,JF,EA,BX,Ij,zB,GG,iy,nC,Dq,Dr,wQ,mf,Ih,zP,M4,M6,Ii,Q3⟩:=HN.out
              refine ⟨(mh hN).trans ((KeepsOthers.setCell _ _ _).from _),WY.set (p:=⟨g14,0,none⟩) (WY.below (Nat.le_trans BQ hXs) hN) awl zB GG _,?_⟩
              dsimp only
              rw [HM2.out]
              exact ⟨(aj (p:=⟨g14,0,none⟩) m6 Be _),(aj (p:=⟨g14,0,none⟩) m7 JE _),(aj (p:=⟨g14,0,none⟩) m8 JF _),(aj (p:=⟨g14,0,none⟩) m11 EA _),(aj (p:=⟨g14,0,none⟩) m16 BX _),(aj (p:=⟨g14,0,none⟩) m17 Ij _),(aj (p:=⟨g14,0,none⟩) mT zB _),(aI m14 0 _ rfl),(Marks.set hM m14 (i:=0) _),(Below.setCell (p:=⟨g14,0,none⟩) mB awl _)⟩
          case done =>
           as_aux_lemma =>
            rintro D_ xs X_ hD hxs ⟨m6,m7,m8,m11,m16,m17,mT,m14,hM,mB⟩ hK
            clear kE
            have hHx:GD s v X G T lH a (xs.map Subtype.val) = a2:=by rw [show xs.map Subtype.val = MX s from hxs];exact HST.out.symm
            rw [hHx] at m14
            clear hHx HST hxs
            have hM2:=hM.cons (fun h=>absurd (hDs D_ h) (Nat.not_lt.2 hD)) (Nat.le_trans BQ hD) hK
            clear hM hK m17
            have aPo:w.heap.size≤X_.heap.size:=mB.size
            dsimp only [Exit.inBlock,Exit.then]
            apply_assumption
            refine Eu (wpIn_wide.2 ?_)
            skip
            obtain ⟨Be,JE,JF,EA,BX,Ij,zB,GG,iy,nC,Dq,Dr,wQ,mf,Ih,zP,M4,M6,Ii,Q3⟩:=HN.out
            replace m6:=ag m6
            replace m7:=ag m7
            replace m8:=ag m8
            replace m11:=ag m11
            replace m16:=ag m16
            replace mT:=ag mT
            replace m14:=ag m14
            replace mB:=bU mB
            replace hM2:=hM2.below (bU (Below.refl _ X_))
            refine jT (n:=7) (S:=fun w'=>w'.cell? ⟨g16,0,none⟩ = some (U Z lH.f0.f0)∧w'.cell? ⟨g16,1,none⟩ = some (U Z lH.f0.f1)∧w'.cell? ⟨g16,2,none⟩ = some (U Z lH.f1.f0)∧w'.cell? ⟨g16,3,none⟩ = some (U Z lH.f1.f1)∧w'.cell? ⟨g8,0,none⟩ = some (U Z T)∧w'.cell? ⟨g6,0,none⟩ = some (U Z v.speed)∧w'.cell? ⟨g6,1,none⟩ = some (U Z v.dive)∧w'.cell? ⟨g6,2,none⟩ = some (U Z v.use.f0)∧w'.cell? ⟨g6,3,none⟩ = some (U Z v.use.f1)∧w'.cell? ⟨g6,4,none⟩ = some (U Z v.drift.f0)∧w'.cell? ⟨g6,5,none⟩ = some (U Z v.drift.f1)∧w'.cell? ⟨g6,6,none⟩ = some (U Z v.reserve)) (ds:=[6]) #[ac,ac,ac,ac,ac,ac,ac] aY rfl rfl ⟨((af m16 0).trans rfl),((af m16 1).trans rfl),((af m16 2).trans rfl),((af m16 3).trans rfl),((af m8 0).trans rfl),((af m6 0).trans rfl),((af m6 1).trans rfl),((af m6 2).trans rfl),((af m6 3).trans rfl),((af m6 4).trans rfl),((af m6 5).trans rfl),((af m6 6).trans rfl)⟩ (fun hHeld=>?_)
            generalize hWd:World.drew _ = Wx at m6 m7 m8 m11 m16 mT m14 hM2 mB hHeld ⊢
            clear hWd
            refine dW (i:=2) (N:=some 66) aY ?_
            refine ja (i:=0) (N:=some 64) aY hHeld ?_
            refine ja (i:=1) (N:=some 65) aY hHeld ?_
            refine ja (i:=3) (N:=some 67) aY hHeld ?_
            refine dW (i:=4) (N:=some 68) aY ?_
            refine jJ (i:=5) (N:=none) #[ab,ab,ab,ab,ab,ab,ac] rfl rfl aY (by decide) (fun K hK=>?_)
            have K7:=bn m7 0
            have PH:=bn m7 1
            have Xz:=bn m7 2
            have XB:=bn m7 3
            have K8:=(af m7 0).trans rfl
            have PI:=(af m7 1).trans rfl
            have XA:=(af m7 2).trans rfl
            have XC:=(af m7 3).trans rfl
            refine zD (w1:=?_) (by rfl) rfl ?_ ?_
            rotate_left
            ·go_simp
             rfl
            clear K7 K8 PH PI Xz XA XB XC
            refine hK.out _ _ ⟨((af (aj (p:=⟨g7,3,none⟩) (aj (p:=⟨g7,2,none⟩) (aj (p:=⟨g7,1,none⟩) (aj (p:=⟨g7,0,none⟩) m16 mf _) mf _) mf _) mf _) 0).trans rfl),((af (aj (p:=⟨g7,3,none⟩) (aj (p:=⟨g7,2,none⟩) (aj (p:=⟨g7,1,none⟩) (aj (p:=⟨g7,0,none⟩) m16 mf _) mf _) mf _) mf _) 1).trans rfl),((af (aj (p:=⟨g7,3,none⟩) (aj (p:=⟨g7,2,none⟩) (aj (p:=⟨g7,1,none⟩) (aj (p:=⟨g7,0,none⟩) m16 mf _) mf _) mf _) mf _) 2).trans rfl),((af (aj (p:=⟨g7,3,none⟩) (aj (p:=⟨g7,2,none⟩) (aj (p:=⟨g7,1,none⟩) (aj (p:=⟨g7,0,none⟩) m16 mf _) mf _) mf _) mf _) 3).trans rfl),((af (aj (p:=⟨g7,3,none⟩) (aj (p:=⟨g7,2,none⟩) (aj (p:=⟨g7,1,none⟩) (aj (p:=⟨g7,0,none⟩) m8 nC _) nC _) nC _) nC _) 0).trans rfl),((af (aj (p:=⟨g7,3,none⟩) (aj (p:=⟨g7,2,none⟩) (aj (p:=⟨g7,1,none⟩) (aj (p:=⟨g7,0,none⟩) m6 iy _) iy _) iy _) iy _) 0).trans rfl),((af (aj (p:=⟨g7,3,none⟩) (aj (p:=⟨g7,2,none⟩) (aj (p:=⟨g7,1,none⟩) (aj (p:=⟨g7,0,none⟩) m6 iy _) iy _) iy _) iy _) 1).trans rfl),((af (aj (p:=⟨g7,3,none⟩) (aj (p:=⟨g7,2,none⟩) (aj (p:=⟨g7,1,none⟩) (aj (p:=⟨g7,0,none⟩) m6 iy _) iy _) iy _) iy _) 2).trans rfl),((af (aj (p:=⟨g7,3,none⟩) (aj (p:=⟨g7,2,none⟩) (aj (p:=⟨g7,1,none⟩) (aj (p:=⟨g7,0,none⟩) m6 iy _) iy _) iy _) iy _) 3).trans rfl),((af (aj (p:=⟨g7,3,none⟩) (aj (p:=⟨g7,2,none⟩) (aj (p:=⟨g7,1,none⟩) (aj (p:=⟨g7,0,none⟩) m6 iy _) iy _) iy _) iy _) 4).trans rfl),((af (aj (p:=⟨g7,3,none⟩) (aj (p:=⟨g7,2,none⟩) (aj (p:=⟨g7,1,none⟩) (aj (p:=⟨g7,0,none⟩) m6 iy _) iy _) iy _) iy _) 5).trans rfl),((af (aj (p:=⟨g7,3,none⟩) (aj (p:=⟨g7,2,none⟩) (aj (p:=⟨g7,1,none⟩) (aj (p:=⟨g7,0,none⟩) m6 iy _) iy _) iy _) iy _) 6).trans rfl)⟩ (fun hHeld=>?_)
            clear hK K
            refine Kg (i:=6) (N:=none) #[ab,ab,ab,ab,ab,ab,ab] rfl rfl aY (by decide) (fun K hK=>?_)
            have NL:=(aj (p:=⟨g7,3,none⟩) (aj (p:=⟨g7,2,none⟩) (aj (p:=⟨g7,1,none⟩) (aj (p:=⟨g7,0,none⟩) m8 nC (U Z lH.f0.f0)) nC (U Z lH.f0.f1)) nC (U Z lH.f1.f0)) nC (U Z lH.f1.f1))
            have K7:=bn NL 0
            have K8:=(af NL 0).trans rfl
            refine zD (w1:=?_) (by rfl) rfl ?_ ?_
            rotate_left
            ·go_simp
             rfl
            refine hK.out _ _ ?_
            clear hK K
            refine lI aY ?_
            refine vZ ?_
            have hl6:=HL.out
            gi_wp2
            skip
            have hq:=HQ.out
            have hv:=HDV.out
            have hwr:wrap64 (T+v.dive) = T+v.dive:=by unfold wrap64;omega
            have hkw:((k+1:Nat):Int) = (k:Int)+1:=by omega
            refine ⟨⟨k+1,lH,wrap64 (T+v.dive),a2,D_ :: Ds,(fun k_=>(#[(u_ 0),(u_ 1),(u_ 2),(u_ 3),(u_ 4),(u_ 5),.pointer (some ⟨g6,0,none⟩),.pointer (some ⟨g7,0,none⟩),.pointer (some ⟨g8,0,none⟩),(u_ 9),(u_ 10),.pointer (some ⟨g11,0,none⟩),(u_ 12),(u_ 13),.pointer (some ⟨g14,0,none⟩),(u_ 15),.pointer (some ⟨g16,0,none⟩),.pointer (some ⟨g17,0,none⟩),U Z 0,(u_ 19),(u_ 20),(u_ 21),(u_ 22),(u_ 23),(u_ 24),(u_ 25),(u_ 26),(u_ 27),(u_ 28),(u_ 29),(u_ 30),(u_ 31),(u_ 32),(u_ 33),(u_ 34),(u_ 35),.slice (some ad_) l.length c,U Z (l.length:Int),U Z (((k+1:Nat)):Int),.bool true,.pointer (some (ad_.add (k*4))),.agg #[U Z lH.f0.f0,U Z lH.f0.f1,U Z lH.f1.f0,U Z lH.f1.f1],.tuple #[.agg #[U Z G.f0.f0,U Z G.f0.f1,U Z G.f1.f0,U Z G.f1.f1],U Z 0],.pointer (some ⟨g,0,none⟩),.agg #[U Z X.f0.f0,U Z X.f0.f1,U Z X.f1.f0,U Z X.f1.f1],U Z T,.tuple #[.agg #[U Z G.f0.f0,U Z G.f0.f1,U Z G.f1.f0,U Z G.f1.f1],U Z 0],.agg #[U Z G.f0.f0,U Z G.f0.f1,U Z G.f1.f0,U Z G.f1.f1],U Z 0,U Z 0,.bool false,(u_ 51),.pointer (some ⟨g,0,none⟩),.func (.func 129) #[] #[.pointer (some ⟨gP,0,none⟩)],(u_ 54),(u_ 55),(u_ 56),(u_ 57),(u_ 58),(u_ 59),(u_ 60),(u_ 61),(u_ 62),(u_ 63),.agg #[U Z lH.f0.f0,U Z lH.f0.f1,U Z lH.f1.f0,U Z lH.f1.f1],U Z T,.pointer (some ⟨g6,1,none⟩),U Z v.dive,U Z (wrap64 (T+v.dive)),U Z (((k+1:Nat)):Int),(u_ 70)]:Array Value).getD k_ undef),?fr,by omega,Lib.hid (by rw [hwr];exact HR3.out),Lib.hid ⟨HXS.out.2,by rw [hwr];omega,by rw [hwr];omega⟩,(Marks.set (Marks.set (Marks.set (Marks.set (Marks.set hM2 m7 (i:=0) _) (aI m7 0 (U Z lH.f0.f0) rfl) (i:=1) _) (aI (aI m7 0 (U Z lH.f0.f0) rfl) 1 (U Z lH.f0.f1) rfl) (i:=2) _) (aI (aI (aI m7 0 (U Z lH.f0.f0) rfl) 1 (U Z lH.f0.f1) rfl) 2 (U Z lH.f1.f0) rfl) (i:=3) _) (aj (p:=⟨g7,3,none⟩) (aj (p:=⟨g7,2,none⟩) (aj (p:=⟨g7,1,none⟩) (aj (p:=⟨g7,0,none⟩) m8 nC _) nC _) nC _) nC _) (i:=0) _),(aj (p:=⟨g8,0,none⟩) (aj (p:=⟨g7,3,none⟩) (aj (p:=⟨g7,2,none⟩) (aj (p:=⟨g7,1,none⟩) (aj (p:=⟨g7,0,none⟩) m6 iy _) iy _) iy _) iy _) Ih _),(aj (p:=⟨g8,0,none⟩) (aI (aI (aI (aI m7 0 (U Z lH.f0.f0) rfl) 1 (U Z lH.f0.f1) rfl) 2 (U Z lH.f1.f0) rfl) 3 (U Z lH.f1.f1) rfl) zP _),(aI (aj (p:=⟨g7,3,none⟩) (aj (p:=⟨g7,2,none⟩) (aj (p:=⟨g7,1,none⟩) (aj (p:=⟨g7,0,none⟩) m8 nC _) nC _) nC _) nC _) 0 (U Z (wrap64 (T+v.dive))) rfl),(aj (p:=⟨g8,0,none⟩) (aj (p:=⟨g7,3,none⟩) (aj (p:=⟨g7,2,none⟩) (aj (p:=⟨g7,1,none⟩) (aj (p:=⟨g7,0,none⟩) m11 Dq _) Dq _) Dq _) Dq _) M4 _),(aj (p:=⟨g8,0,none⟩) (aj (p:=⟨g7,3,none⟩) (aj (p:=⟨g7,2,none⟩) (aj (p:=⟨g7,1,none⟩) (aj (p:=⟨g7,0,none⟩) m14 Dr _) Dr _) Dr _) Dr _) M6 _),(aj (p:=⟨g8,0,none⟩) (aj (p:=⟨g7,3,none⟩) (aj (p:=⟨g7,2,none⟩) (aj (p:=⟨g7,1,none⟩) (aj (p:=⟨g7,0,none⟩) mT wQ _) wQ _) wQ _) wQ _) Ii _),(Below.setCell (p:=⟨g8,0,none⟩) (Below.setCell (p:=⟨g7,3,none⟩) (Below.setCell (p:=⟨g7,2,none⟩) (Below.setCell (p:=⟨g7,1,none⟩) (Below.setCell (p:=⟨g7,0,none⟩) mB hG7 _) hG7 _) hG7 _) hG7 _) Xv _)⟩,by simp [intOf];omega⟩
            case fr=>first|rfl|(rw [hkw];rfl)
end Go.Proofs.Ytmhaiihjfgfaoaa.Gl
end
