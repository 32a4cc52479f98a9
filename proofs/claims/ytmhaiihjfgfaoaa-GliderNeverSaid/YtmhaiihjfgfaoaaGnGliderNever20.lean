import Derived.Test.YtmhaiihjfgfaoaaGnGliderNever3
import Derived.Test.YtmhaiihjfgfaoaaGnGliderNever19
set_option linter.unusedSimpArgs false
set_option linter.unusedVariables false
open Go.Value renaming int → Z
open Go.IntKind renaming i64 → ab
open Bool renaming true → ac, false → al
section
namespace Go.Proofs.Ytmhaiihjfgfaoaa.Gl
open Go.RowKit Go.Shelf Go.Proofs.YtmhaiihjfgfaoaaW.PrintWords Go.Proofs.YtmhaiihjfgfaoaaW.PrintLast Go.Proofs.YtmhaiihjfgfaoaaW.PrintMore Go.Proofs.Ytmhaiihjfgfaoaa.Pr Go.Proofs.YtmhaiihjfgfaoaaW.Round
set_option linter.unusedVariables false
set_option linter.unusedSimpArgs false
attribute [local go_sem] dw dx dM dN dz
attribute [local go_sem] Oper.semAt_some
def Gx (s:fT) (v:iw) (x g:cZ) (t:Int) (tb:cZ) (a:Int) (l:List eQ):Int:=l.foldl (fun a c=>if pE (jl s v x g t c.f0 c.f1) tb = 2 then a else 16) a
theorem af5 (s:fT) (v:iw) (x g:cZ) (t:Int) (tb:cZ) (a:Int) (l:List eQ) (c:eQ):Gx s v x g t tb a (l++[c]) = if pE (jl s v x g t c.f0 c.f1) tb = 2 then Gx s v x g t tb a l else 16:=by unfold Gx;rw [List.foldl_append];rfl
def Qn (s:fT) (v:iw) (x:cZ) (t:Int) (tb:cZ) (a:Int):Int:=Gx s v x (dE s v x) t tb a (oP s)
def ckI (s:fT) (v:iw):List cZ→cZ→Int→Int→Int
 |[],_,_,a=>a
 |tb :: l,x,t,a=>if eP s v x t≠0 then eP s v x t else ckI s v l tb (t+v.dive) (Qn s v x t tb a)
def CkX (s:fT) (v:iw) (x:cZ) (t:Int) (l:List cZ):Int:=if eB s v x t≠0 then eB s v x t else if vv l≠0 then vv l else ckI s v l x t 0
theorem af6 {l:List cZ} (h:vv l = 0):l.length≤64∧∀ x ∈ l,gp x:=by
 unfold vv at h
 by_cases h1:l.length > 64
 ·rw [if_pos h1] at h;cases h
 ·rw [if_neg h1] at h
  refine ⟨by omega,fun x hx=>adx ?_⟩
  cases hb:l.any (fun x=>!uK x) with
  |true=>rw [hb] at h;cases h
  |false =>
   have h2:=List.any_eq_false.1 hb x hx
   unfold BR
   cases h3:uK x with
   |true=>rfl
   |false=>rw [h3] at h2;exact absurd rfl h2
def La (w:World) (g bp:Nat) (tc:Array Value) (A B:World):Prop:=Below w.heap.size A B∧(aZ A g tc 110→aZ B g tc 110)∧(aZ A bp #[.pointer (some ⟨g,0,none⟩)] 104→aZ B bp #[.pointer (some ⟨g,0,none⟩)] 104)
theorem La.trans {w:World} {g bp:Nat} {tc:Array Value} {A B C:World} (h:La w g bp tc A B) (k:La w g bp tc B C):La w g bp tc A C:=⟨h.1.trans k.1,fun q=>k.2.1 (h.2.1 q),fun q=>k.2.2 (h.2.2 q)⟩
theorem La.put {w W0:World} {g bp:Nat} {tc:Array Value} (hw:w.heap.size≤W0.heap.size) (hg:g < W0.heap.size) (hp:bp < W0.heap.size) (W:World) (l:Nat) (o o':Obj) (hl:W0.heap.size≤l) (h:W.heap[l]? = some o) (h1:o.isCells = false) (h2:o.isWalk = false):La w g bp tc W (W.putObj l o') :=
 ⟨belowK_b hw W l o o' hl h h1 h2,fun q=>(World.putObj_heap_other (by omega)).trans q,fun q=>(World.putObj_heap_other (by omega)).trans q⟩
theorem La.below {w:World} {g bp:Nat} {tc:Array Value} {A B:World} (hw:w.heap.size≤A.heap.size) (h:Below A.heap.size A B):La w g bp tc A B:=⟨h.mono hw,fun q=>aZ.qm q h,fun q=>aZ.qm q h⟩
theorem La.set {w:World} {g bp:Nat} {tc:Array Value} {A B:World} (h:La w g bp tc A B) {p:Addr} (hp:w.heap.size≤p.block) (h1:g≠p.block) (h2:bp≠p.block) (u:Value):La w g bp tc A (B.setCell p u):=⟨h.1.setCell hp u,fun q=>ah (h.2.1 q) h1 u,fun q=>ah (h.2.2 q) h2 u⟩
set_option maxRecDepth 100000 in
set_option maxHeartbeats 16000000 in
theorem Qo (s:fT) (v:iw) (x:cZ) (t:Int) (A:Option Addr) (c:Nat) (l:List cZ) (A7 A8:Option Addr) (c7 c8:Nat) (w:World) (h7:s.shores.length≤c7) (Ry:Kd.C Kd.bool w A7 s.shores.length s.shores) (h8:s.currents.length≤c8) (JL:Kd.C Cm w A8 s.currents.length s.currents) (hC:Kd.C Qe w A l.length l) (hc:l.length≤c):
 Calls Try.prog 51 #[.agg #[Z ab s.nx,Z ab s.ny,Z ab s.cell,Z ab s.slot,Z ab s.slots,Z ab s.layers,Z ab s.most,.slice A7 s.shores.length c7,.slice A8 s.currents.length c8],.agg #[Z ab v.speed,Z ab v.dive,Z ab v.use.f0,Z ab v.use.f1,Z ab v.drift.f0,Z ab v.drift.f1,Z ab v.reserve],.agg #[Z ab x.f0.f0,Z ab x.f0.f1,Z ab x.f1.f0,Z ab x.f1.f1],Z ab t,.slice A l.length c] w (oo (Z ab (CkX s v x t l)) w):=by
 have Cn:=Try.underlying25
 have xX:=Try.underlying29
 have pG:=Try.underlying31
 have F5:=Try.underlying33
 have mE:=Try.underlying27
 have HX:Hid (CkX s v x t l = if eB s v x t≠0 then eB s v x t else if vv l≠0 then vv l else ckI s v l x t 0):=Lib.hid rfl
 have hbg:eB s v x t = if il s v≠0 then il s v else ow x t:=rfl
 have HBG:=Lib.hid hbg
 clear hbg
 refine (callsIn_wide (n:=7)).1 ?_
 refine callsIn_of_wp_marks Try.func51 rfl trivial ?_ rfl
 simp only [Try.ntmps51,List.size_toArray,List.length_cons,List.length_nil,Nat.reduceAdd,Nat.reduceSub,Array.replicate_succ,Array.replicate_zero,List.push_toArray,List.append_toArray,List.nil_append,List.cons_append]
 gi_wp2_with fail
 have m5:aZ ((((w.alloc (.cells #[Z ab s.nx,Z ab s.ny,Z ab s.cell,Z ab s.slot,Z ab s.slots,Z ab s.layers,Z ab s.most,.slice A7 s.shores.length c7,.slice A8 s.currents.length c8] 25)).alloc (.cells #[Z ab v.speed,Z ab v.dive,Z ab v.use.f0,Z ab v.use.f1,Z ab v.drift.f0,Z ab v.drift.f1,Z ab v.reserve] 29)).alloc (.cells #[Z ab x.f0.f0,Z ab x.f0.f1,Z ab x.f1.f0,Z ab x.f1.f1] 31)).alloc (.cells #[Z ab t] 2)) (w.heap.size) #[Z ab s.nx,Z ab s.ny,Z ab s.cell,Z ab s.slot,Z ab s.slots,Z ab s.layers,Z ab s.most,.slice A7 s.shores.length c7,.slice A8 s.currents.length c8] 25:=(aa (aa (aa RI _) _) _)
 have m6:aZ ((((w.alloc (.cells #[Z ab s.nx,Z ab s.ny,Z ab s.cell,Z ab s.slot,Z ab s.slots,Z ab s.layers,Z ab s.most,.slice A7 s.shores.length c7,.slice A8 s.currents.length c8] 25)).alloc (.cells #[Z ab v.speed,Z ab v.dive,Z ab v.use.f0,Z ab v.use.f1,Z ab v.drift.f0,Z ab v.drift.f1,Z ab v.reserve] 29)).alloc (.cells #[Z ab x.f0.f0,Z ab x.f0.f1,Z ab x.f1.f0,Z ab x.f1.f1] 31)).alloc (.cells #[Z ab t] 2)) (w.heap.size+1) #[Z ab v.speed,Z ab v.dive,Z ab v.use.f0,Z ab v.use.f1,Z ab v.drift.f0,Z ab v.drift.f1,Z ab v.reserve] 29:=(aa (aa TS _) _)
 have m7:aZ ((((w.alloc (.cells #[Z ab s.nx,Z ab s.ny,Z ab s.cell,Z ab s.slot,Z ab s.slots,Z ab s.layers,Z ab s.most,.slice A7 s.shores.length c7,.slice A8 s.currents.length c8] 25)).alloc (.cells #[Z ab v.speed,Z ab v.dive,Z ab v.use.f0,Z ab v.use.f1,Z ab v.drift.f0,Z ab v.drift.f1,Z ab v.reserve] 29)).alloc (.cells #[Z ab x.f0.f0,Z ab x.f0.f1,Z ab x.f1.f0,Z ab x.f1.f1] 31)).alloc (.cells #[Z ab t] 2)) (w.heap.size+1+1) #[Z ab x.f0.f0,Z ab x.f0.f1,Z ab x.f1.f0,Z ab x.f1.f1] 31:=(aa aby _)
 have m8:aZ ((((w.alloc (.cells #[Z ab s.nx,Z ab s.ny,Z ab s.cell,Z ab s.slot,Z ab s.slots,Z ab s.layers,Z ab s.most,.slice A7 s.shores.length c7,.slice A8 s.currents.length c8] 25)).alloc (.cells #[Z ab v.speed,Z ab v.dive,Z ab v.use.f0,Z ab v.use.f1,Z ab v.drift.f0,Z ab v.drift.f1,Z ab v.reserve] 29)).alloc (.cells #[Z ab x.f0.f0,Z ab x.f0.f1,Z ab x.f1.f0,Z ab x.f1.f1] 31)).alloc (.cells #[Z ab t] 2)) (w.heap.size+1+1+1) #[Z ab t] 2:=(by have h_:=bB (((w.alloc (.cells #[Z ab s.nx,Z ab s.ny,Z ab s.cell,Z ab s.slot,Z ab s.slots,Z ab s.layers,Z ab s.most,.slice A7 s.shores.length c7,.slice A8 s.currents.length c8] 25)).alloc (.cells #[Z ab v.speed,Z ab v.dive,Z ab v.use.f0,Z ab v.use.f1,Z ab v.drift.f0,Z ab v.drift.f1,Z ab v.reserve] 29)).alloc (.cells #[Z ab x.f0.f0,Z ab x.f0.f1,Z ab x.f1.f0,Z ab x.f1.f1] 31)) (.cells #[Z ab t] 2);first|exact h_|(simp only [World.size_alloc] at h_;exact h_))
 have mB:Below w.heap.size w ((((w.alloc (.cells #[Z ab s.nx,Z ab s.ny,Z ab s.cell,Z ab s.slot,Z ab s.slots,Z ab s.layers,Z ab s.most,.slice A7 s.shores.length c7,.slice A8 s.currents.length c8] 25)).alloc (.cells #[Z ab v.speed,Z ab v.dive,Z ab v.use.f0,Z ab v.use.f1,Z ab v.drift.f0,Z ab v.drift.f1,Z ab v.reserve] 29)).alloc (.cells #[Z ab x.f0.f0,Z ab x.f0.f1,Z ab x.f1.f0,Z ab x.f1.f1] 31)).alloc (.cells #[Z ab t] 2)):=(ai (ai (ai (ai (Below.refl w.heap.size w) _) _) _) _)
 have dU:w.heap.size≤w.heap.size:=Nat.le_refl _
 generalize jq:((((w.alloc (.cells #[Z ab s.nx,Z ab s.ny,Z ab s.cell,Z ab s.slot,Z ab s.slots,Z ab s.layers,Z ab s.most,.slice A7 s.shores.length c7,.slice A8 s.currents.length c8] 25)).alloc (.cells #[Z ab v.speed,Z ab v.dive,Z ab v.use.f0,Z ab v.use.f1,Z ab v.drift.f0,Z ab v.drift.f1,Z ab v.reserve] 29)).alloc (.cells #[Z ab x.f0.f0,Z ab x.f0.f1,Z ab x.f1.f0,Z ab x.f1.f1] 31)).alloc (.cells #[Z ab t] 2)) = W1 at m5 m6 m7 m8 mB ⊢
 clear jq
 generalize hg5:w.heap.size = g5 at m5 m6 m7 m8 ⊢
 have Yd:w.heap.size≤g5:=by omega
 generalize Ye:g5+1 = g6 at m6 m7 m8 ⊢
 have nI:g5≠g6:=by omega
 have iT:g6≠g5:=nI.symm
 have RB:w.heap.size≤g6:=by omega
 generalize hg7:g6+1 = g7 at m7 m8 ⊢
 have Cg:g5≠g7:=by omega
 have ed:g6≠g7:=by omega
 have TJ:g7≠g5:=Cg.symm
 have TG:g7≠g6:=ed.symm
 have hG7:w.heap.size≤g7:=by omega
 generalize hg8:g7+1 = g8 at m8 ⊢
 have JV:g5≠g8:=by omega
 have CJ:g6≠g8:=by omega
 have oq:g7≠g8:=by omega
 have abu:g8≠g5:=JV.symm
 have ahG:g8≠g6:=CJ.symm
 have iY:g8≠g7:=oq.symm
 have Sa:w.heap.size≤g8:=by omega
 clear dU
 try clear hg8
 try clear hg7
 try clear Ye
 try clear hg5
 have lC:w.heap.size≤W1.heap.size:=mB.size
 obtain ⟨yn,zG,JY,JZ,apd,ape,apf,apg,aph⟩:=EW m5
 obtain ⟨zF,JM,JN,JO,apz,apA,apB⟩:=vg m6
 obtain ⟨zP,zQ,Co,Cq⟩:=mH m7
 have yz:=(ae m8 0).trans rfl
 gi_wp2_with fail
 clear yn zG JY JZ apd ape apf apg aph zF JM JN JO apz apA apB zP zQ Co Cq yz
 skip
 have uj:=aD m5
 have rz:=aD m6
 have uZ:=aD m7
 have xU:=aD m8
 have hcon:=Qi s v x t A7 A8 c7 c8 w W1 mB h7 Ry h8 JL
 refine ⟨trivial,(callsIn_wide.2 hcon).mono ?_⟩
 clear hcon
 rintro e W2 ⟨ptr,rfl,hb,hpt⟩
 replace m5:=af m5 hb
 replace m6:=af m6 hb
 replace m7:=af m7 hb
 replace m8:=af m8 hb
 replace mB:=aJ mB hb
 clear hb
 have mY:w.heap.size≤W2.heap.size:=mB.size
 generalize Sk:eB s v x t = E0 at*
 have HE0:=Lib.hid Sk
 clear Sk
 by_cases h0:E0 = 0
 case neg =>
  as_aux_lemma =>
   have HZ:=Lib.hid (HX.out.trans (if_pos h0))
   have hd1:(E0 == 0) = false:=beq_eq_false_iff_ne.2 h0
   have hd2:(E0 != 0) = true:=by rw [bne,hd1];rfl
   clear h0 hpt HX
   gi_wp2
   exact iV (fun W_=>Below w.heap.size w W_) (fun W_ D_ h hB hD=>h.trans (belowK_b (w:=w) (Nat.le_refl _) W_ D_ _ _ hB hD rfl rfl)) (fun W_ h=>⟨_,results_tmp rfl _ _ _,jD,h⟩) [] _ (Marks.nil _ _) (by repeat (first|exact mB|apply ai))
 case pos =>
  as_aux_lemma =>
   have RS:=Lib.hid (HX.out.trans (if_neg (fun h=>h h0)))
   clear HX
   have hb0:=HBG.out.symm.trans h0
   obtain ⟨ht0,hp0⟩:=mg hb0
   obtain ⟨hbx,J3,P9⟩:=yB hp0
   obtain ⟨hSV,hVN⟩:=ve ht0
   rcases hpt with ⟨_,g,rfl,hg,hT,hTT⟩|⟨hbad,_⟩
   case inr=>exact absurd ht0 hbad
   case inl =>
    subst h0
    clear hb0 ht0 hp0 HBG
    obtain ⟨B7,d7,B8,d8,mT,_⟩:=hT
    have hTA:∀ W',Below w.heap.size w W'→aZ W' g #[Z ab s.nx,Z ab s.ny,Z ab s.cell,Z ab s.slot,Z ab s.slots,Z ab s.layers,Z ab s.most,.slice B7 s.shores.length d7,.slice B8 s.currents.length d8,Z ab v.speed,Z ab v.dive,Z ab v.use.f0,Z ab v.use.f1,Z ab v.drift.f0,Z ab v.drift.f1,Z ab v.reserve] 110→dZ W' g s v:=fun W' h1 h2=>hTT W' h1 (h2.trans mT.symm)
    have HTA:=Lib.hid hTA
    clear hTA hTT
    have Fj:g≠g5:=by omega
    have Tp:=Fj.symm
    have zC:g≠g6:=by omega
    have PH:=zC.symm
    have pq:g≠g7:=by omega
    have PS:=pq.symm
    have vz:g≠g8:=by omega
    have UH:=vz.symm
    have hGT:w.heap.size≤g:=by omega
    clear uj rz uZ xU hg
    gi_wp2_with fail
    skip
    have uj:=aD m5
    have rz:=aD m6
    have uZ:=aD m7
    have xU:=aD m8
    have mF:=aD mT
    have m11:aZ (W2.alloc (.cells #[.pointer (some ⟨g,0,none⟩)] 104)) (W2.heap.size) #[.pointer (some ⟨g,0,none⟩)] 104:=ar1
    replace m5:aZ (W2.alloc (.cells #[.pointer (some ⟨g,0,none⟩)] 104)) g5 #[Z ab s.nx,Z ab s.ny,Z ab s.cell,Z ab s.slot,Z ab s.slots,Z ab s.layers,Z ab s.most,.slice A7 s.shores.length c7,.slice A8 s.currents.length c8] 25:=(aa m5 _)
    replace m6:aZ (W2.alloc (.cells #[.pointer (some ⟨g,0,none⟩)] 104)) g6 #[Z ab v.speed,Z ab v.dive,Z ab v.use.f0,Z ab v.use.f1,Z ab v.drift.f0,Z ab v.drift.f1,Z ab v.reserve] 29:=(aa m6 _)
    replace m7:aZ (W2.alloc (.cells #[.pointer (some ⟨g,0,none⟩)] 104)) g7 #[Z ab x.f0.f0,Z ab x.f0.f1,Z ab x.f1.f0,Z ab x.f1.f1] 31:=(aa m7 _)
    replace m8:aZ (W2.alloc (.cells #[.pointer (some ⟨g,0,none⟩)] 104)) g8 #[Z ab t] 2:=(aa m8 _)
    replace mT:aZ (W2.alloc (.cells #[.pointer (some ⟨g,0,none⟩)] 104)) g #[Z ab s.nx,Z ab s.ny,Z ab s.cell,Z ab s.slot,Z ab s.slots,Z ab s.layers,Z ab s.most,.slice B7 s.shores.length d7,.slice B8 s.currents.length d8,Z ab v.speed,Z ab v.dive,Z ab v.use.f0,Z ab v.use.f1,Z ab v.drift.f0,Z ab v.drift.f1,Z ab v.reserve] 110:=(aa mT _)
    replace mB:Below w.heap.size w (W2.alloc (.cells #[.pointer (some ⟨g,0,none⟩)] 104)):=(ai mB _)
    have dU:w.heap.size≤W2.heap.size:=mY
    generalize jq:(W2.alloc (.cells #[.pointer (some ⟨g,0,none⟩)] 104)) = W3 at m5 m6 m7 m8 mT m11 mB ⊢
    clear jq
    generalize Uu:W2.heap.size = g11 at m11 ⊢
    have Gh:g5≠g11:=by omega
    have pW:g6≠g11:=by omega
    have nN:g7≠g11:=by omega
    have Aq:g8≠g11:=by omega
    have pV:g≠g11:=by omega
    have Uv:g11≠g5:=Gh.symm
    have Uw:g11≠g6:=pW.symm
    have qJ:g11≠g7:=nN.symm
    have wP:g11≠g8:=Aq.symm
    have UI:g11≠g:=pV.symm
    have PU:w.heap.size≤g11:=by omega
    clear dU uj rz uZ xU mF
    try clear Uu
    have uY:w.heap.size≤W3.heap.size:=mB.size
    have hcon:=af1 A c l W3 (Kd.bD hC mB) hc
    refine ⟨trivial,(callsIn_wide.2 hcon).mono ?_⟩
    clear hcon
    rintro e W4 ⟨rfl,hb⟩
    replace m5:=af m5 hb
    replace m6:=af m6 hb
    replace m7:=af m7 hb
    replace m8:=af m8 hb
    replace mT:=af mT hb
    replace m11:=af m11 hb
    replace mB:=aJ mB hb
    clear hb
    have E5:w.heap.size≤W4.heap.size:=mB.size
    have hok:=fun h=>af6 (l:=l) h
    generalize vv l = E1 at*
    by_cases h1:E1 = 0
    case neg =>
     as_aux_lemma =>
      have HZ:=Lib.hid (RS.out.trans (if_pos h1))
      have hd1:(E1 == 0) = false:=beq_eq_false_iff_ne.2 h1
      have hd2:(E1 != 0) = true:=by rw [bne,hd1];rfl
      clear h1 RS hok
      gi_wp2
      exact iV (fun W_=>Below w.heap.size w W_) (fun W_ D_ h hB hD=>h.trans (belowK_b (w:=w) (Nat.le_refl _) W_ D_ _ _ hB hD rfl rfl)) (fun W_ h=>⟨_,results_tmp rfl _ _ _,jD,h⟩) [] _ (Marks.nil _ _) (by repeat (first|exact mB|apply ai))
    case pos =>
     as_aux_lemma =>
      have YZ:=Lib.hid (RS.out.trans (if_neg (fun h=>h h1)))
      clear RS
      have HBX:=Lib.hid (hok h1)
      clear hok
      subst h1
      gi_wp2_with fail
      skip
      have uj:=aD m5
      have rz:=aD m6
      have uZ:=aD m7
      have xU:=aD m8
      have mF:=aD mT
      have qI:=aD m11
      have m14:aZ (W4.alloc (.cells #[Z ab 0] 36)) (W4.heap.size) #[Z ab 0] 36:=(by have h_:=bB W4 (.cells #[Z ab 0] 36);first|exact h_|(simp only [World.size_alloc] at h_;exact h_))
      replace m5:aZ (W4.alloc (.cells #[Z ab 0] 36)) g5 #[Z ab s.nx,Z ab s.ny,Z ab s.cell,Z ab s.slot,Z ab s.slots,Z ab s.layers,Z ab s.most,.slice A7 s.shores.length c7,.slice A8 s.currents.length c8] 25:=(aa m5 _)
      replace m6:aZ (W4.alloc (.cells #[Z ab 0] 36)) g6 #[Z ab v.speed,Z ab v.dive,Z ab v.use.f0,Z ab v.use.f1,Z ab v.drift.f0,Z ab v.drift.f1,Z ab v.reserve] 29:=(aa m6 _)
      replace m7:aZ (W4.alloc (.cells #[Z ab 0] 36)) g7 #[Z ab x.f0.f0,Z ab x.f0.f1,Z ab x.f1.f0,Z ab x.f1.f1] 31:=(aa m7 _)
      replace m8:aZ (W4.alloc (.cells #[Z ab 0] 36)) g8 #[Z ab t] 2:=(aa m8 _)
      replace mT:aZ (W4.alloc (.cells #[Z ab 0] 36)) g #[Z ab s.nx,Z ab s.ny,Z ab s.cell,Z ab s.slot,Z ab s.slots,Z ab s.layers,Z ab s.most,.slice B7 s.shores.length d7,.slice B8 s.currents.length d8,Z ab v.speed,Z ab v.dive,Z ab v.use.f0,Z ab v.use.f1,Z ab v.drift.f0,Z ab v.drift.f1,Z ab v.reserve] 110:=(aa mT _)
      replace m11:aZ (W4.alloc (.cells #[Z ab 0] 36)) g11 #[.pointer (some ⟨g,0,none⟩)] 104:=(aa m11 _)
      replace mB:Below w.heap.size w (W4.alloc (.cells #[Z ab 0] 36)):=(ai mB _)
      have dU:w.heap.size≤W4.heap.size:=E5
      generalize jq:(W4.alloc (.cells #[Z ab 0] 36)) = W5 at m5 m6 m7 m8 mT m11 m14 mB ⊢
      clear jq
      generalize Tv:W4.heap.size = g14 at m14 ⊢
      have vO:g5≠g14:=by omega
      have uE:g6≠g14:=by omega
      have DX:g7≠g14:=by omega
      have DY:g8≠g14:=by omega
      have lv:g≠g14:=by omega
      have yK:g11≠g14:=by omega
      have jk:g14≠g5:=vO.symm
      have Tw:g14≠g6:=uE.symm
      have wQ:g14≠g7:=DX.symm
      have Gy:g14≠g8:=DY.symm
      have vP:g14≠g:=lv.symm
      have ahH:g14≠g11:=yK.symm
      have afO:w.heap.size≤g14:=by omega
      clear dU uj rz uZ xU mF qI
      try clear Tv
      have E8:w.heap.size≤W5.heap.size:=mB.size
      refine wpIn_loop (fun a_ W=>∃ (k:Nat) (X:cZ) (T:Int) (a:Int) (Ds:List Nat) (u_:Nat→Value),a_ = { tmps:=#[(u_ 0),(u_ 1),(u_ 2),(u_ 3),(u_ 4),(u_ 5),.pointer (some ⟨g6,0,none⟩),.pointer (some ⟨g7,0,none⟩),.pointer (some ⟨g8,0,none⟩),(u_ 9),(u_ 10),.pointer (some ⟨g11,0,none⟩),(u_ 12),(u_ 13),.pointer (some ⟨g14,0,none⟩),(u_ 15),(u_ 16),(u_ 17),(u_ 18),(u_ 19),(u_ 20),(u_ 21),(u_ 22),(u_ 23),(u_ 24),(u_ 25),(u_ 26),(u_ 27),(u_ 28),(u_ 29),(u_ 30),(u_ 31),(u_ 32),(u_ 33),(u_ 34),(u_ 35),.slice A l.length c,Z ab (l.length:Int),Z ab (k:Int),(u_ 39),(u_ 40),(u_ 41),(u_ 42),(u_ 43),(u_ 44),(u_ 45),(u_ 46),(u_ 47),(u_ 48),(u_ 49),(u_ 50),(u_ 51),(u_ 52),(u_ 53),(u_ 54),(u_ 55),(u_ 56),(u_ 57),(u_ 58),(u_ 59),(u_ 60),(u_ 61),(u_ 62),(u_ 63),(u_ 64),(u_ 65),(u_ 66),(u_ 67),(u_ 68),(u_ 69),(u_ 70)],defers:=Ds.map mark }∧k≤l.length∧Hid (CkX s v x t l = ckI s v (l.drop k) X T a)∧Hid (gp X∧0≤T∧T≤1073741824+(k:Int)*131072)∧Marks W w.heap.size Ds∧aZ W g6 #[Z ab v.speed,Z ab v.dive,Z ab v.use.f0,Z ab v.use.f1,Z ab v.drift.f0,Z ab v.drift.f1,Z ab v.reserve] 29∧aZ W g7 #[Z ab X.f0.f0,Z ab X.f0.f1,Z ab X.f1.f0,Z ab X.f1.f1] 31∧aZ W g8 #[Z ab T] 2∧aZ W g11 #[.pointer (some ⟨g,0,none⟩)] 104∧aZ W g14 #[Z ab a] 36∧aZ W g #[Z ab s.nx,Z ab s.ny,Z ab s.cell,Z ab s.slot,Z ab s.slots,Z ab s.layers,Z ab s.most,.slice B7 s.shores.length d7,.slice B8 s.currents.length d8,Z ab v.speed,Z ab v.dive,Z ab v.use.f0,Z ab v.use.f1,Z ab v.drift.f0,Z ab v.drift.f1,Z ab v.reserve] 110∧Below w.heap.size w W) (fun a_ _=>((l.length:Int) - intOf (a_.tmps.getD 38 undef)).toNat) ⟨0,x,t,0,[],(fun k_=>(#[.agg #[Z ab s.nx,Z ab s.ny,Z ab s.cell,Z ab s.slot,Z ab s.slots,Z ab s.layers,Z ab s.most,.slice A7 s.shores.length c7,.slice A8 s.currents.length c8],.agg #[Z ab v.speed,Z ab v.dive,Z ab v.use.f0,Z ab v.use.f1,Z ab v.drift.f0,Z ab v.drift.f1,Z ab v.reserve],.agg #[Z ab x.f0.f0,Z ab x.f0.f1,Z ab x.f1.f0,Z ab x.f1.f1],Z ab t,.slice A l.length c,.pointer (some ⟨g5,0,none⟩),.pointer (some ⟨g6,0,none⟩),.pointer (some ⟨g7,0,none⟩),.pointer (some ⟨g8,0,none⟩),undef,Z ab 0,.pointer (some ⟨g11,0,none⟩),Z ab 0,Z ab 0,.pointer (some ⟨g14,0,none⟩),undef,undef,undef,undef,undef,.tuple #[.pointer (some ⟨g,0,none⟩),Z ab 0],.agg #[Z ab s.nx,Z ab s.ny,Z ab s.cell,Z ab s.slot,Z ab s.slots,Z ab s.layers,Z ab s.most,.slice A7 s.shores.length c7,.slice A8 s.currents.length c8],.agg #[Z ab v.speed,Z ab v.dive,Z ab v.use.f0,Z ab v.use.f1,Z ab v.drift.f0,Z ab v.drift.f1,Z ab v.reserve],.agg #[Z ab x.f0.f0,Z ab x.f0.f1,Z ab x.f1.f0,Z ab x.f1.f1],Z ab t,.tuple #[.pointer (some ⟨g,0,none⟩),Z ab 0],.pointer (some ⟨g,0,none⟩),Z ab 0,Z ab 0,.bool false,undef,.slice A l.length c,Z ab 0,Z ab 0,.bool false,undef,.slice A l.length c,Z ab (l.length:Int),Z ab 0,undef,undef,undef,undef,undef,undef,undef,undef,undef,undef,undef,undef,undef,undef,undef,undef,undef,undef,undef,undef,undef,undef,undef,undef,undef,undef,undef,undef,undef,undef,undef,undef]:Array Value).getD k_ undef),rfl,Nat.zero_le _,YZ,Lib.hid ⟨hbx,J3,by omega⟩,Marks.nil _ _,m6,m7,m8,m11,m14,mT,mB⟩ ?_
      clear m5 m6 m7 m8 m11 m14 mT mB hbx J3 P9 YZ
      rintro a_ W ⟨k,X,T,a,Ds,u_,rfl,hk,HR,HQ,hM,m6,m7,m8,m11,m14,mT,mB⟩
      have akD:w.heap.size≤W.heap.size:=mB.size
      skip
      by_cases hlt:k < l.length
      case neg =>
       as_aux_lemma =>
        obtain rfl:k = l.length:=by omega
        have HE:=HR.out
        rw [List.drop_length] at HE
        have HZ:Hid (CkX s v x t l = a):=Lib.hid HE
        clear HE HR HQ
        have hnl:¬ ((l.length:Int) < (l.length:Int)):=by omega
        have c14:=(ae m14 0).trans rfl
        gi_wp2
        exact iV (fun W_=>Below w.heap.size w W_) (fun W_ D_ h hB hD=>h.trans (belowK_b (w:=w) (Nat.le_refl _) W_ D_ _ _ hB hD rfl rfl)) (fun W_ h=>⟨_,results_tmp rfl _ _ _,jD,h⟩) Ds _ hM mB
      case pos =>
       as_aux_lemma =>
        obtain ⟨ad_,e_,hx0,hx1,hx2,hx3⟩:=FC hC k (by omega) (by omega)
        cases e_
        simp only [Int.toNat_natCast] at hx0 hx1 hx2 hx3
        replace hx0:=(mB.cell (World.block_lt_of_cell? w _ hx0)).trans hx0
        replace hx1:=(mB.cell (World.block_lt_of_cell? w _ hx1)).trans hx1
        replace hx2:=(mB.cell (World.block_lt_of_cell? w _ hx2)).trans hx2
        replace hx3:=(mB.cell (World.block_lt_of_cell? w _ hx3)).trans hx3
        have hdr:l.drop k = bE l (k:Int) :: l.drop (k+1):=by rw [List.drop_eq_getElem_cons hlt];simp [bE,List.getD_eq_getElem?_getD,hlt]
        have hmem:bE l (k:Int) ∈ l:=List.mem_of_getElem? (i:=k) (by simp [bE,List.getD_eq_getElem?_getD,hlt])
        have hto:=HBX.out.2 _ hmem
        clear hmem
        generalize bE l (k:Int) = iQ at*
        obtain ⟨hX,hT0,hT1⟩:=HQ.out
        have ahI:=HBX.out.1
        have hdv:=hVN.dive
        have HDV:=Lib.hid hdv
        have HR2:Hid (CkX s v x t l = if eP s v X T≠0 then eP s v X T else ckI s v (l.drop (k+1)) iQ (T+v.dive) (Qn s v X T iQ a)):=Lib.hid (by rw [HR.out,hdr];rfl)
        clear HR hdr
        have hkk:((k:Int) < (l.length:Int)):=by omega
        have kR:=fun W (h:dZ W g s v)=>JR g s v X T W h hSV.n hVN hX.1 hT0 (by omega)
        have hro:=fun h=>yx (t:=T) hSV.n hVN hX h
        have HV:Hid (eP s v X T = 0→rC s v X T = dE s v X):=Lib.hid (fun h=>if_pos h)
        have HXS:Hid (gp X∧gp iQ):=Lib.hid ⟨hX,hto⟩
        have HL:=Lib.hid ahI
        clear hdv hX hto ahI
        have zP:∀ o_,(W.alloc o_).cell? ⟨g7,0,none⟩ = some (Z ab X.f0.f0):=fun o_=>(ae (aa m7 o_) 0).trans rfl
        have zQ:∀ o_,(W.alloc o_).cell? ⟨g7,1,none⟩ = some (Z ab X.f0.f1):=fun o_=>(ae (aa m7 o_) 1).trans rfl
        have Co:∀ o_,(W.alloc o_).cell? ⟨g7,2,none⟩ = some (Z ab X.f1.f0):=fun o_=>(ae (aa m7 o_) 2).trans rfl
        have Cq:∀ o_,(W.alloc o_).cell? ⟨g7,3,none⟩ = some (Z ab X.f1.f1):=fun o_=>(ae (aa m7 o_) 3).trans rfl
        have yz:∀ o_,(W.alloc o_).cell? ⟨g8,0,none⟩ = some (Z ab T):=fun o_=>(ae (aa m8 o_) 0).trans rfl
        have CK:∀ o_,(W.alloc o_).cell? ⟨g11,0,none⟩ = some (.pointer (some ⟨g,0,none⟩)):=fun o_=>(ae (aa m11 o_) 0).trans rfl
        gi_wp2_with fail
        skip
        clear zP zQ Co Cq yz CK
        clear hkk hx0 hx1 hx2 hx3
        replace hM:=hM.below (ai (Below.refl W.heap.size W) (.cells #[Z ab iQ.f0.f0,Z ab iQ.f0.f1,Z ab iQ.f1.f0,Z ab iQ.f1.f1] 31))
        have rz:=aD m6
        have uZ:=aD m7
        have xU:=aD m8
        have qI:=aD m11
        have yu:=aD m14
        have mF:=aD mT
        have m16:aZ (W.alloc (.cells #[Z ab iQ.f0.f0,Z ab iQ.f0.f1,Z ab iQ.f1.f0,Z ab iQ.f1.f1] 31)) (W.heap.size) #[Z ab iQ.f0.f0,Z ab iQ.f0.f1,Z ab iQ.f1.f0,Z ab iQ.f1.f1] 31:=(by have h_:=bB W (.cells #[Z ab iQ.f0.f0,Z ab iQ.f0.f1,Z ab iQ.f1.f0,Z ab iQ.f1.f1] 31);first|exact h_|(simp only [World.size_alloc] at h_;exact h_))
        replace m6:aZ (W.alloc (.cells #[Z ab iQ.f0.f0,Z ab iQ.f0.f1,Z ab iQ.f1.f0,Z ab iQ.f1.f1] 31)) g6 #[Z ab v.speed,Z ab v.dive,Z ab v.use.f0,Z ab v.use.f1,Z ab v.drift.f0,Z ab v.drift.f1,Z ab v.reserve] 29:=(aa m6 _)
        replace m7:aZ (W.alloc (.cells #[Z ab iQ.f0.f0,Z ab iQ.f0.f1,Z ab iQ.f1.f0,Z ab iQ.f1.f1] 31)) g7 #[Z ab X.f0.f0,Z ab X.f0.f1,Z ab X.f1.f0,Z ab X.f1.f1] 31:=(aa m7 _)
        replace m8:aZ (W.alloc (.cells #[Z ab iQ.f0.f0,Z ab iQ.f0.f1,Z ab iQ.f1.f0,Z ab iQ.f1.f1] 31)) g8 #[Z ab T] 2:=(aa m8 _)
        replace m11:aZ (W.alloc (.cells #[Z ab iQ.f0.f0,Z ab iQ.f0.f1,Z ab iQ.f1.f0,Z ab iQ.f1.f1] 31)) g11 #[.pointer (some ⟨g,0,none⟩)] 104:=(aa m11 _)
        replace m14:aZ (W.alloc (.cells #[Z ab iQ.f0.f0,Z ab iQ.f0.f1,Z ab iQ.f1.f0,Z ab iQ.f1.f1] 31)) g14 #[Z ab a] 36:=(aa m14 _)
        replace mT:aZ (W.alloc (.cells #[Z ab iQ.f0.f0,Z ab iQ.f0.f1,Z ab iQ.f1.f0,Z ab iQ.f1.f1] 31)) g #[Z ab s.nx,Z ab s.ny,Z ab s.cell,Z ab s.slot,Z ab s.slots,Z ab s.layers,Z ab s.most,.slice B7 s.shores.length d7,.slice B8 s.currents.length d8,Z ab v.speed,Z ab v.dive,Z ab v.use.f0,Z ab v.use.f1,Z ab v.drift.f0,Z ab v.drift.f1,Z ab v.reserve] 110:=(aa mT _)
        replace mB:Below w.heap.size w (W.alloc (.cells #[Z ab iQ.f0.f0,Z ab iQ.f0.f1,Z ab iQ.f1.f0,Z ab iQ.f1.f1] 31)):=(ai mB _)
        have dU:w.heap.size≤W.heap.size:=akD
        generalize jq:(W.alloc (.cells #[Z ab iQ.f0.f0,Z ab iQ.f0.f1,Z ab iQ.f1.f0,Z ab iQ.f1.f1] 31)) = Wa at m6 m7 m8 m11 m14 mT m16 mB hM ⊢
        clear jq
        generalize abp:W.heap.size = g16 at m16 ⊢
        have pU:g6≠g16:=by omega
        have adJ:g7≠g16:=by omega
        have adK:g8≠g16:=by omega
        have Y0:g11≠g16:=by omega
        have gN:g14≠g16:=by omega
        have qw:g≠g16:=by omega
        have TC:g16≠g6:=pU.symm
        have jo:g16≠g7:=adJ.symm
        have Mk:g16≠g8:=adK.symm
        have ahJ:g16≠g11:=Y0.symm
        have jV:g16≠g14:=gN.symm
        have vQ:g16≠g:=qw.symm
        have Lr:w.heap.size≤g16:=by omega
        clear dU rz uZ xU qI yu mF
        try clear abp
        have ahK:w.heap.size≤Wa.heap.size:=mB.size
        have hcon:=kR Wa (HTA.out _ mB mT)
        refine ⟨trivial,(callsIn_wide.2 hcon).mono ?_⟩
        clear hcon
        rintro e Wb ⟨rfl,hb⟩
        replace hM:=hM.below hb
        replace m6:=af m6 hb
        replace m7:=af m7 hb
        replace m8:=af m8 hb
        replace m11:=af m11 hb
        replace m14:=af m14 hb
        replace mT:=af mT hb
        replace m16:=af m16 hb
        replace mB:=aJ mB hb
        clear hb
        have Gz:w.heap.size≤Wb.heap.size:=mB.size
        clear kR
        generalize eP s v X T = E at*
        generalize rC s v X T = G at*
        by_cases hE:E = 0
        case neg =>
         as_aux_lemma =>
          have HZ:=Lib.hid (HR2.out.trans (if_pos hE))
          have hd1:(E == 0) = false:=beq_eq_false_iff_ne.2 hE
          have hd2:(E != 0) = true:=by rw [bne,hd1];rfl
          clear hE HR2 hro
          gi_wp2
          exact iV (fun W_=>Below w.heap.size w W_) (fun W_ D_ h hB hD=>h.trans (belowK_b (w:=w) (Nat.le_refl _) W_ D_ _ _ hB hD rfl rfl)) (fun W_ h=>⟨_,results_tmp rfl _ _ _,jD,h⟩) Ds _ (hM.below (ai (Below.refl _ _) _)) (ai mB _)
        case pos =>
         as_aux_lemma =>
          have HR3:=Lib.hid (HR2.out.trans (if_neg (fun h=>h hE)))
          obtain ⟨hin,⟨_,htd⟩,_⟩:=hro hE
          have hG:=HV.out hE
          clear HR2 hro HV
          subst hE
          subst hG
          have hla:=hSV.n.layers
          have kE:=fun W hd layer (h:dZ W g s v) (h0:0≤hd) (h1:hd≤8) (h2:0≤layer) (h3:layer < s.layers)=>PR g s v X (dE s v X) T hd layer W h hSV.n hVN hSV.cu hSV.cb HXS.out.1.1 hin hT0 htd h0 h1 h2 h3
          have HST:Hid (Qn s v X T iQ a = Gx s v X (dE s v X) T iQ a (oP s)):=Lib.hid rfl
          generalize Qn s v X T iQ a = a2 at*
          generalize dE s v X = G at*
          have zP:∀ o_,(Wb.alloc o_).cell? ⟨g7,0,none⟩ = some (Z ab X.f0.f0):=fun o_=>(ae (aa m7 o_) 0).trans rfl
          have zQ:∀ o_,(Wb.alloc o_).cell? ⟨g7,1,none⟩ = some (Z ab X.f0.f1):=fun o_=>(ae (aa m7 o_) 1).trans rfl
          have Co:∀ o_,(Wb.alloc o_).cell? ⟨g7,2,none⟩ = some (Z ab X.f1.f0):=fun o_=>(ae (aa m7 o_) 2).trans rfl
          have Cq:∀ o_,(Wb.alloc o_).cell? ⟨g7,3,none⟩ = some (Z ab X.f1.f1):=fun o_=>(ae (aa m7 o_) 3).trans rfl
          have yz:∀ o_,(Wb.alloc o_).cell? ⟨g8,0,none⟩ = some (Z ab T):=fun o_=>(ae (aa m8 o_) 0).trans rfl
          have CK:∀ o_,(Wb.alloc o_).cell? ⟨g11,0,none⟩ = some (.pointer (some ⟨g,0,none⟩)):=fun o_=>(ae (aa m11 o_) 0).trans rfl
          gi_wp2_with fail
          clear zP zQ Co Cq yz CK
          skip
          replace hM:=hM.below (ai (Below.refl Wb.heap.size Wb) (.cells #[Z ab G.f0.f0,Z ab G.f0.f1,Z ab G.f1.f0,Z ab G.f1.f1] 31))
          have rz:=aD m6
          have uZ:=aD m7
          have xU:=aD m8
          have qI:=aD m11
          have yu:=aD m14
          have mF:=aD mT
          have GA:=aD m16
          have m17:aZ (Wb.alloc (.cells #[Z ab G.f0.f0,Z ab G.f0.f1,Z ab G.f1.f0,Z ab G.f1.f1] 31)) (Wb.heap.size) #[Z ab G.f0.f0,Z ab G.f0.f1,Z ab G.f1.f0,Z ab G.f1.f1] 31:=(by have h_:=bB Wb (.cells #[Z ab G.f0.f0,Z ab G.f0.f1,Z ab G.f1.f0,Z ab G.f1.f1] 31);first|exact h_|(simp only [World.size_alloc] at h_;exact h_))
          replace m6:aZ (Wb.alloc (.cells #[Z ab G.f0.f0,Z ab G.f0.f1,Z ab G.f1.f0,Z ab G.f1.f1] 31)) g6 #[Z ab v.speed,Z ab v.dive,Z ab v.use.f0,Z ab v.use.f1,Z ab v.drift.f0,Z ab v.drift.f1,Z ab v.reserve] 29:=(aa m6 _)
          replace m7:aZ (Wb.alloc (.cells #[Z ab G.f0.f0,Z ab G.f0.f1,Z ab G.f1.f0,Z ab G.f1.f1] 31)) g7 #[Z ab X.f0.f0,Z ab X.f0.f1,Z ab X.f1.f0,Z ab X.f1.f1] 31:=(aa m7 _)
          replace m8:aZ (Wb.alloc (.cells #[Z ab G.f0.f0,Z ab G.f0.f1,Z ab G.f1.f0,Z ab G.f1.f1] 31)) g8 #[Z ab T] 2:=(aa m8 _)
          replace m11:aZ (Wb.alloc (.cells #[Z ab G.f0.f0,Z ab G.f0.f1,Z ab G.f1.f0,Z ab G.f1.f1] 31)) g11 #[.pointer (some ⟨g,0,none⟩)] 104:=(aa m11 _)
          replace m14:aZ (Wb.alloc (.cells #[Z ab G.f0.f0,Z ab G.f0.f1,Z ab G.f1.f0,Z ab G.f1.f1] 31)) g14 #[Z ab a] 36:=(aa m14 _)
          replace mT:aZ (Wb.alloc (.cells #[Z ab G.f0.f0,Z ab G.f0.f1,Z ab G.f1.f0,Z ab G.f1.f1] 31)) g #[Z ab s.nx,Z ab s.ny,Z ab s.cell,Z ab s.slot,Z ab s.slots,Z ab s.layers,Z ab s.most,.slice B7 s.shores.length d7,.slice B8 s.currents.length d8,Z ab v.speed,Z ab v.dive,Z ab v.use.f0,Z ab v.use.f1,Z ab v.drift.f0,Z ab v.drift.f1,Z ab v.reserve] 110:=(aa mT _)
          replace m16:aZ (Wb.alloc (.cells #[Z ab G.f0.f0,Z ab G.f0.f1,Z ab G.f1.f0,Z ab G.f1.f1] 31)) g16 #[Z ab iQ.f0.f0,Z ab iQ.f0.f1,Z ab iQ.f1.f0,Z ab iQ.f1.f1] 31:=(aa m16 _)
          replace mB:Below w.heap.size w (Wb.alloc (.cells #[Z ab G.f0.f0,Z ab G.f0.f1,Z ab G.f1.f0,Z ab G.f1.f1] 31)):=(ai mB _)
          have dU:w.heap.size≤Wb.heap.size:=Gz
          generalize jq:(Wb.alloc (.cells #[Z ab G.f0.f0,Z ab G.f0.f1,Z ab G.f1.f0,Z ab G.f1.f1] 31)) = Wc at m6 m7 m8 m11 m14 mT m16 m17 mB hM ⊢
          clear jq
          generalize abH:Wb.heap.size = g17 at m17 ⊢
          have adL:g6≠g17:=by omega
          have GD:g7≠g17:=by omega
          have GG:g8≠g17:=by omega
          have CL:g11≠g17:=by omega
          have oG:g14≠g17:=by omega
          have qK:g≠g17:=by omega
          have oH:g16≠g17:=by omega
          have alr:g17≠g6:=adL.symm
          have UJ:g17≠g7:=GD.symm
          have UK:g17≠g8:=GG.symm
          have Qp:g17≠g11:=CL.symm
          have ng:g17≠g14:=oG.symm
          have wS:g17≠g:=qK.symm
          have sI:g17≠g16:=oH.symm
          have als:w.heap.size≤g17:=by omega
          clear dU rz uZ xU qI yu mF GA
          try clear abH
          have Y1:w.heap.size≤Wc.heap.size:=mB.size
          have hcon:=Cw g Wc
          refine ⟨trivial,(callsIn_wide.2 hcon).mono ?_⟩
          clear hcon
          rintro e _ ⟨rfl,rfl⟩
          gi_wp2_with fail
          replace hM:=hM.below (ai (Below.refl Wc.heap.size Wc) (.cells #[.pointer (some ⟨g,0,none⟩)] 104))
          have rz:=aD m6
          have uZ:=aD m7
          have xU:=aD m8
          have qI:=aD m11
          have yu:=aD m14
          have mF:=aD mT
          have GA:=aD m16
          have GH:=aD m17
          have mP:aZ (Wc.alloc (.cells #[.pointer (some ⟨g,0,none⟩)] 104)) (Wc.heap.size) #[.pointer (some ⟨g,0,none⟩)] 104:=(by have h_:=bB Wc (.cells #[.pointer (some ⟨g,0,none⟩)] 104);first|exact h_|(simp only [World.size_alloc] at h_;exact h_))
          replace m6:aZ (Wc.alloc (.cells #[.pointer (some ⟨g,0,none⟩)] 104)) g6 #[Z ab v.speed,Z ab v.dive,Z ab v.use.f0,Z ab v.use.f1,Z ab v.drift.f0,Z ab v.drift.f1,Z ab v.reserve] 29:=(aa m6 _)
          replace m7:aZ (Wc.alloc (.cells #[.pointer (some ⟨g,0,none⟩)] 104)) g7 #[Z ab X.f0.f0,Z ab X.f0.f1,Z ab X.f1.f0,Z ab X.f1.f1] 31:=(aa m7 _)
          replace m8:aZ (Wc.alloc (.cells #[.pointer (some ⟨g,0,none⟩)] 104)) g8 #[Z ab T] 2:=(aa m8 _)
          replace m11:aZ (Wc.alloc (.cells #[.pointer (some ⟨g,0,none⟩)] 104)) g11 #[.pointer (some ⟨g,0,none⟩)] 104:=(aa m11 _)
          replace m14:aZ (Wc.alloc (.cells #[.pointer (some ⟨g,0,none⟩)] 104)) g14 #[Z ab a] 36:=(aa m14 _)
          replace mT:aZ (Wc.alloc (.cells #[.pointer (some ⟨g,0,none⟩)] 104)) g #[Z ab s.nx,Z ab s.ny,Z ab s.cell,Z ab s.slot,Z ab s.slots,Z ab s.layers,Z ab s.most,.slice B7 s.shores.length d7,.slice B8 s.currents.length d8,Z ab v.speed,Z ab v.dive,Z ab v.use.f0,Z ab v.use.f1,Z ab v.drift.f0,Z ab v.drift.f1,Z ab v.reserve] 110:=(aa mT _)
          replace m16:aZ (Wc.alloc (.cells #[.pointer (some ⟨g,0,none⟩)] 104)) g16 #[Z ab iQ.f0.f0,Z ab iQ.f0.f1,Z ab iQ.f1.f0,Z ab iQ.f1.f1] 31:=(aa m16 _)
          replace m17:aZ (Wc.alloc (.cells #[.pointer (some ⟨g,0,none⟩)] 104)) g17 #[Z ab G.f0.f0,Z ab G.f0.f1,Z ab G.f1.f0,Z ab G.f1.f1] 31:=(aa m17 _)
          replace mB:Below w.heap.size w (Wc.alloc (.cells #[.pointer (some ⟨g,0,none⟩)] 104)):=(ai mB _)
          have dU:w.heap.size≤Wc.heap.size:=Y1
          generalize jq:(Wc.alloc (.cells #[.pointer (some ⟨g,0,none⟩)] 104)) = W0 at m6 m7 m8 m11 m14 mT m16 m17 mP mB hM ⊢
          clear jq
          generalize hgP:Wc.heap.size = gP at mP ⊢
          have BZ:g6≠gP:=by omega
          have ahL:g7≠gP:=by omega
          have ahM:g8≠gP:=by omega
          have Gi:g11≠gP:=by omega
          have FY:g14≠gP:=by omega
          have PK:g≠gP:=by omega
          have adM:g16≠gP:=by omega
          have adN:g17≠gP:=by omega
          have PL:gP≠g6:=BZ.symm
          have apC:gP≠g7:=ahL.symm
          have apD:gP≠g8:=ahM.symm
          have Ux:gP≠g11:=Gi.symm
          have zH:gP≠g14:=FY.symm
          have abo:gP≠g:=PK.symm
          have alu:gP≠g16:=adM.symm
          have alv:gP≠g17:=adN.symm
          have hGP:w.heap.size≤gP:=by omega
          clear dU rz uZ xU qI yu mF GA GH
          try clear hgP
          have pI:w.heap.size≤W0.heap.size:=mB.size
          skip
          have hDs:∀ D_ ∈ Ds,D_ < W0.heap.size:=fun D_ h=>(Array.getElem?_eq_some_iff.1 (hM.2 D_ h).2).1
          have HN:Hid (g6≠g14∧g7≠g14∧g8≠g14∧g11≠g14∧g16≠g14∧g17≠g14∧g≠g14∧gP≠g14∧g6≠g7∧g8≠g7∧g11≠g7∧g14≠g7∧g≠g7∧g16≠g7∧g6≠g8∧g7≠g8∧g11≠g8∧g14≠g8∧g≠g8∧g16≠g8):=Lib.hid ⟨uE,DX,DY,yK,jV,ng,lv,zH,ed,iY,qJ,wQ,pq,jo,CJ,oq,wP,Gy,vz,Mk⟩
          try clear Fj zC pq vz pV lv qw qK
          try clear PK
          try clear Tp
          try clear nI Cg JV Gh vO rO awO
          try clear JP
          try clear PH
          try clear iT ed CJ pW uE pU adL
          try clear BZ
          try clear PS
          try clear TJ TG oq nN DX adJ GD
          try clear ahL
          try clear UH
          try clear abu ahG iY Aq DY adK GG
          try clear ahM
          try clear UI
          try clear Uv Uw qJ wP yK Y0 CL
          try clear Gi
          try clear vP
          try clear jk Tw wQ Gy ahH gN oG
          try clear FY
          try clear vQ
          try clear adn TC jo Mk ahJ jV oH
          try clear adM
          try clear wS
          try clear awP alr UJ UK Qp ng sI
          try clear adN
          try clear abo
          try clear Tx PL apC apD Ux zH alu alv
          refine wpIn_rangeFunc_ownH rfl (by omega) (gf:=129) (lb:=#[.pointer (some ⟨gP,0,none⟩)]) rfl trivial (enters_of Try.func129 aT rfl)
           (encs:=fun c:RP s=>#[.agg #[Z ab c.1.f0,Z ab c.1.f1]]) (Kp:=La w g gP #[Z ab s.nx,Z ab s.ny,Z ab s.cell,Z ab s.slot,Z ab s.slots,Z ab s.layers,Z ab s.most,.slice B7 s.shores.length d7,.slice B8 s.currents.length d8,Z ab v.speed,Z ab v.dive,Z ab v.use.f0,Z ab v.use.f1,Z ab v.drift.f0,Z ab v.drift.f1,Z ab v.reserve]) (S:=ahm s) (Sp:=akV s) (N:=(oP s).length) (w0:=W0)
           (fun l J Jx X_ hW hJ _ hY h0=>Cx 6 (by omega) l gP g s v (fun W=>Below w.heap.size w W∧aZ W g #[Z ab s.nx,Z ab s.ny,Z ab s.cell,Z ab s.slot,Z ab s.slots,Z ab s.layers,Z ab s.most,.slice B7 s.shores.length d7,.slice B8 s.currents.length d8,Z ab v.speed,Z ab v.dive,Z ab v.use.f0,Z ab v.use.f1,Z ab v.drift.f0,Z ab v.drift.f1,Z ab v.reserve] 110∧aZ W gP #[.pointer (some ⟨g,0,none⟩)] 104) (fun W h=>⟨HTA.out W h.1 h.2.1,h.2.2⟩) hSV.n (La w g gP #[Z ab s.nx,Z ab s.ny,Z ab s.cell,Z ab s.slot,Z ab s.slots,Z ab s.layers,Z ab s.most,.slice B7 s.shores.length d7,.slice B8 s.currents.length d8,Z ab v.speed,Z ab v.dive,Z ab v.use.f0,Z ab v.use.f1,Z ab v.drift.f0,Z ab v.drift.f1,Z ab v.reserve]) (fun A B h hE=>⟨hE.1.trans h.1,h.2.1 hE.2.1,h.2.2 hE.2.2⟩) J Jx hY X_ ⟨aJ mB hW,aZ.qm mT hW,aZ.qm mP hW⟩ h0) La.trans (La.put pI (aD mT) (aD mP)) (Below.refl _ _) (fun _=>rfl)
           (fun pre W=>aZ W g6 #[Z ab v.speed,Z ab v.dive,Z ab v.use.f0,Z ab v.use.f1,Z ab v.drift.f0,Z ab v.drift.f1,Z ab v.reserve] 29∧aZ W g7 #[Z ab X.f0.f0,Z ab X.f0.f1,Z ab X.f1.f0,Z ab X.f1.f1] 31∧aZ W g8 #[Z ab T] 2∧aZ W g11 #[.pointer (some ⟨g,0,none⟩)] 104∧aZ W g16 #[Z ab iQ.f0.f0,Z ab iQ.f0.f1,Z ab iQ.f1.f0,Z ab iQ.f1.f1] 31∧aZ W g17 #[Z ab G.f0.f0,Z ab G.f0.f1,Z ab G.f1.f0,Z ab G.f1.f1] 31∧aZ W g #[Z ab s.nx,Z ab s.ny,Z ab s.cell,Z ab s.slot,Z ab s.slots,Z ab s.layers,Z ab s.most,.slice B7 s.shores.length d7,.slice B8 s.currents.length d8,Z ab v.speed,Z ab v.dive,Z ab v.use.f0,Z ab v.use.f1,Z ab v.drift.f0,Z ab v.drift.f1,Z ab v.reserve] 110∧aZ W g14 #[Z ab (Gx s v X G T iQ a (pre.map Subtype.val))] 36∧Marks W w.heap.size Ds∧Below w.heap.size w W)
           (fun c pre W=>False)
           (OwnFrom.and (dV _ _ (fun _=>_) _) (OwnFrom.and (dV _ _ (fun _=>_) _) (OwnFrom.and (dV _ _ (fun _=>_) _) (OwnFrom.and (dV _ _ (fun _=>_) _) (OwnFrom.and (dV _ _ (fun _=>_) _) (OwnFrom.and (dV _ _ (fun _=>_) _) (OwnFrom.and (dV _ _ (fun _=>_) _) (OwnFrom.and (dV _ _ (fun pre:List (RP s)=>#[Z ab (Gx s v X G T iQ a (pre.map Subtype.val))]) _) (OwnFrom.and (xR _ _ Ds hDs) (ownFrom_below (by omega) (by omega)))))))))))
           (fun c pre X Y row hs hg hr=>hs)
           ⟨m6,m7,m8,m11,m16,m17,mT,m14,hM,mB⟩
           (fun c a' W=>∃ (g19:Nat) (u_:Nat→Value),a' = { tmps:=#[(u_ 0),(u_ 1),(u_ 2),(u_ 3),(u_ 4),(u_ 5),.pointer (some ⟨g6,0,none⟩),.pointer (some ⟨g7,0,none⟩),.pointer (some ⟨g8,0,none⟩),(u_ 9),(u_ 10),.pointer (some ⟨g11,0,none⟩),(u_ 12),(u_ 13),.pointer (some ⟨g14,0,none⟩),(u_ 15),.pointer (some ⟨g16,0,none⟩),.pointer (some ⟨g17,0,none⟩),(u_ 18),.pointer (some ⟨g19,0,none⟩),(u_ 20),(u_ 21),(u_ 22),(u_ 23),(u_ 24),(u_ 25),(u_ 26),(u_ 27),(u_ 28),(u_ 29),(u_ 30),(u_ 31),(u_ 32),(u_ 33),(u_ 34),(u_ 35),(u_ 36),(u_ 37),(u_ 38),(u_ 39),(u_ 40),(u_ 41),(u_ 42),(u_ 43),(u_ 44),(u_ 45),(u_ 46),(u_ 47),(u_ 48),(u_ 49),(u_ 50),(u_ 51),(u_ 52),(u_ 53),(u_ 54),(u_ 55),(u_ 56),(u_ 57),(u_ 58),(u_ 59),(u_ 60),(u_ 61),(u_ 62),(u_ 63),(u_ 64),(u_ 65),(u_ 66),(u_ 67),(u_ 68),(u_ 69),(u_ 70)],defers:=[] }∧aZ W g19 #[Z ab c.1.f0,Z ab c.1.f1] 33)
           (fun c a' s X Y row hs hg hr=>by obtain ⟨g19,u_,h1,h2⟩:=hs;exact ⟨g19,u_,h1,eO h2 hg hr⟩) ?assign ?body ?done ?stop
          case assign =>
           as_aux_lemma =>
            rintro l_ pre q X_ K ⟨m6,m7,m8,m11,m16,m17,mT,m14,hM,mB⟩ hK
            gi_wp2
            skip
            have hb:=ai (Below.refl X_.heap.size X_) (.cells #[Z ab q.1.f0,Z ab q.1.f1] 33)
            exact hK _ _ (eD hb) (La.below mB.size hb) ⟨af m6 hb,af m7 hb,af m8 hb,af m11 hb,af m16 hb,af m17 hb,af mT hb,af m14 hb,hM.below hb,aJ mB hb⟩ ⟨X_.heap.size,(fun k_=>(#[(u_ 0),(u_ 1),(u_ 2),(u_ 3),(u_ 4),(u_ 5),.pointer (some ⟨g6,0,none⟩),.pointer (some ⟨g7,0,none⟩),.pointer (some ⟨g8,0,none⟩),(u_ 9),(u_ 10),.pointer (some ⟨g11,0,none⟩),(u_ 12),(u_ 13),.pointer (some ⟨g14,0,none⟩),(u_ 15),.pointer (some ⟨g16,0,none⟩),.pointer (some ⟨g17,0,none⟩),Z ab 0,.pointer (some ⟨X_.heap.size,0,none⟩),(u_ 20),(u_ 21),(u_ 22),(u_ 23),(u_ 24),(u_ 25),(u_ 26),(u_ 27),(u_ 28),(u_ 29),(u_ 30),(u_ 31),(u_ 32),(u_ 33),(u_ 34),(u_ 35),.slice (some ad_) l.length c,Z ab (l.length:Int),Z ab (k:Int),.bool true,.pointer (some (ad_.add (k*4))),.agg #[Z ab iQ.f0.f0,Z ab iQ.f0.f1,Z ab iQ.f1.f0,Z ab iQ.f1.f1],.tuple #[.agg #[Z ab G.f0.f0,Z ab G.f0.f1,Z ab G.f1.f0,Z ab G.f1.f1],Z ab 0],.pointer (some ⟨g,0,none⟩),.agg #[Z ab X.f0.f0,Z ab X.f0.f1,Z ab X.f1.f0,Z ab X.f1.f1],Z ab T,.tuple #[.agg #[Z ab G.f0.f0,Z ab G.f0.f1,Z ab G.f1.f0,Z ab G.f1.f1],Z ab 0],.agg #[Z ab G.f0.f0,Z ab G.f0.f1,Z ab G.f1.f0,Z ab G.f1.f1],Z ab 0,Z ab 0,.bool false,(u_ 51),.pointer (some ⟨g,0,none⟩),.func (.func 129) #[] #[.pointer (some ⟨gP,0,none⟩)],.agg #[Z ab q.1.f0,Z ab q.1.f1],(u_ 55),(u_ 56),(u_ 57),(u_ 58),(u_ 59),(u_ 60),(u_ 61),(u_ 62),(u_ 63),(u_ 64),(u_ 65),(u_ 66),(u_ 67),(u_ 68),(u_ 69),(u_ 70)]:Array Value).getD k_ undef),rfl,bB _ _⟩
          case stop =>
           rintro D_ c pre X_ hD hp h hK
           exact h.elim
          case body =>
           as_aux_lemma =>
            rintro l_ pre q a_ X_ hlW ⟨r,hr⟩ ⟨m6,m7,m8,m11,m16,m17,mT,m14,hM,mB⟩ ⟨g19,u_,rfl,m19⟩ hlen
            have hXs:W0.heap.size≤X_.heap.size:=Nat.le_trans hlW (Nat.le_of_lt (aD hr))
            clear hr
            have hN:Below X_.heap.size X_ X_:=Below.refl _ _
            have hmap:(Gx s v X G T iQ a ((pre++[q]).map Subtype.val)) = if pE (jl s v X G T q.1.f0 q.1.f1) iQ = 2 then (Gx s v X G T iQ a (pre.map Subtype.val)) else 16:=by rw [List.map_append,List.map_singleton,af5]
            have HM:=Lib.hid hmap
            clear hmap
            have kEc:=fun W (h:dZ W g s v)=>kE W q.1.f0 q.1.f1 h q.2.1.1 q.2.1.2 q.2.2.1 q.2.2.2
            clear kE
            generalize jl s v X G T q.1.f0 q.1.f1 = E at*
            generalize (Gx s v X G T iQ a (pre.map Subtype.val)) = P at*
            have kH:=fun W=>Am E iQ W
            generalize pE E iQ = y at*
            obtain ⟨⟨c0,c1⟩,c2⟩:=q
            dsimp only at m19
            gi_wp2_with fail
            skip
            replace m6:=au m6
            replace m7:=au m7
            replace m8:=au m8
            replace m11:=au m11
            replace m16:=au m16
            replace m17:=au m17
            replace mT:=au mT
            replace m14:=au m14
            replace m19:=au m19
            replace mB:=bf mB
            replace hM:=hM.below (bf (Below.refl _ X_))
            replace hN:=bf hN
            have hmx:Try.prog.follows .mixedOrders = true:=by kernel_rfl
            refine Ca (m:=9) (S:=fun w'=>w'.cell? ⟨g11,0,none⟩ = some (.pointer (some ⟨g,0,none⟩))∧w'.cell? ⟨g7,0,none⟩ = some (Z ab X.f0.f0)∧w'.cell? ⟨g7,1,none⟩ = some (Z ab X.f0.f1)∧w'.cell? ⟨g7,2,none⟩ = some (Z ab X.f1.f0)∧w'.cell? ⟨g7,3,none⟩ = some (Z ab X.f1.f1)∧w'.cell? ⟨g17,0,none⟩ = some (Z ab G.f0.f0)∧w'.cell? ⟨g17,1,none⟩ = some (Z ab G.f0.f1)∧w'.cell? ⟨g17,2,none⟩ = some (Z ab G.f1.f0)∧w'.cell? ⟨g17,3,none⟩ = some (Z ab G.f1.f1)∧w'.cell? ⟨g8,0,none⟩ = some (Z ab T)∧w'.cell? ⟨g19,0,none⟩ = some (Z ab c0)∧w'.cell? ⟨g19,1,none⟩ = some (Z ab c1)∧w'.cell? ⟨g16,0,none⟩ = some (Z ab iQ.f0.f0)∧w'.cell? ⟨g16,1,none⟩ = some (Z ab iQ.f0.f1)∧w'.cell? ⟨g16,2,none⟩ = some (Z ab iQ.f1.f0)∧w'.cell? ⟨g16,3,none⟩ = some (Z ab iQ.f1.f1)) (ds:=[]) #[al,al,al,al,al,al,al,al,al] aT (FZ (uk zK)) aT rfl rfl ⟨((ae m11 0).trans rfl),((ae m7 0).trans rfl),((ae m7 1).trans rfl),((ae m7 2).trans rfl),((ae m7 3).trans rfl),((ae m17 0).trans rfl),((ae m17 1).trans rfl),((ae m17 2).trans rfl),((ae m17 3).trans rfl),((ae m8 0).trans rfl),((ae m19 0).trans rfl),((ae m19 1).trans rfl),((ae m16 0).trans rfl),((ae m16 1).trans rfl),((ae m16 2).trans rfl),((ae m16 3).trans rfl)⟩ (fun hHeld=>?_)
            generalize hWd:World.drew _ = Wx at m6 m7 m8 m11 m16 m17 mT m14 m19 hM hN mB hHeld ⊢
            clear hWd
            refine iy (i:=0) (N:=some 55) aT hHeld ?_
            refine iy (i:=1) (N:=some 56) aT hHeld ?_
            refine iy (i:=2) (N:=some 57) aT hHeld ?_
            refine iy (i:=3) (N:=some 58) aT hHeld ?_
            refine iy (i:=4) (N:=some 59) aT hHeld ?_
            refine iy (i:=6) (N:=some 61) aT hHeld ?_
            refine jC (i:=5) (N:=some 60) #[ac,ac,ac,ac,ac,ac,ac,al,al] rfl rfl aT (by decide) (fun K hK=>?_)
            have eG:=kEc Wx (HTA.out _ mB mT)
            refine jm Try.func101 aT rfl #[.pointer (some ⟨g,0,none⟩),.agg #[Z ab X.f0.f0,Z ab X.f0.f1,Z ab X.f1.f0,Z ab X.f1.f1],.agg #[Z ab G.f0.f0,Z ab G.f0.f1,Z ab G.f1.f0,Z ab G.f1.f1],Z ab T,.agg #[Z ab c0,Z ab c1]] (by rfl) rfl rfl ET ?_
            with_reducible refine (eG).mono ?_
            rintro e w5 ⟨rfl,hb⟩
            refine ⟨_,rfl,?_⟩
            clear eG
            replace hM:=hM.below hb
            replace hN:=aJ hN hb
            replace m6:=af m6 hb
            replace m7:=af m7 hb
            replace m8:=af m8 hb
            replace m11:=af m11 hb
            replace m16:=af m16 hb
            replace m17:=af m17 hb
            replace mT:=af mT hb
            replace m14:=af m14 hb
            replace m19:=af m19 hb
            replace mB:=aJ mB hb
            clear hb
            refine hK.out _ _ ⟨((ae m11 0).trans rfl),((ae m7 0).trans rfl),((ae m7 1).trans rfl),((ae m7 2).trans rfl),((ae m7 3).trans rfl),((ae m17 0).trans rfl),((ae m17 1).trans rfl),((ae m17 2).trans rfl),((ae m17 3).trans rfl),((ae m8 0).trans rfl),((ae m19 0).trans rfl),((ae m19 1).trans rfl),((ae m16 0).trans rfl),((ae m16 1).trans rfl),((ae m16 2).trans rfl),((ae m16 3).trans rfl)⟩ (fun hHeld=>?_)
            clear hK K
            refine dY (by show Act.put _ (some 60) _ = _;simp only [Act.put,List.setIfInBounds_toArray,List.set_cons_zero,List.set_cons_succ,fe,fo];rfl) ?_
            refine jC (i:=7) (N:=some 62) #[ac,ac,ac,ac,ac,ac,ac,ac,al] rfl rfl aT (by decide) (fun K hK=>?_)
            have eG:=kH w5
            refine jm Try.func89 aT rfl #[.agg #[Z ab E.f0.f0,Z ab E.f0.f1,Z ab E.f1.f0,Z ab E.f1.f1],.agg #[Z ab iQ.f0.f0,Z ab iQ.f0.f1,Z ab iQ.f1.f0,Z ab iQ.f1.f1]] (by rfl) rfl rfl ET ?_
            with_reducible refine (eG).mono ?_
            rintro e w7 ⟨rfl,hb⟩
            refine ⟨_,rfl,?_⟩
            clear eG
            replace hM:=hM.below hb
            replace hN:=aJ hN hb
            replace m6:=af m6 hb
            replace m7:=af m7 hb
            replace m8:=af m8 hb
            replace m11:=af m11 hb
            replace m16:=af m16 hb
            replace m17:=af m17 hb
            replace mT:=af mT hb
            replace m14:=af m14 hb
            replace m19:=af m19 hb
            replace mB:=aJ mB hb
            clear hb
            refine hK.out _ _ ⟨((ae m11 0).trans rfl),((ae m7 0).trans rfl),((ae m7 1).trans rfl),((ae m7 2).trans rfl),((ae m7 3).trans rfl),((ae m17 0).trans rfl),((ae m17 1).trans rfl),((ae m17 2).trans rfl),((ae m17 3).trans rfl),((ae m8 0).trans rfl),((ae m19 0).trans rfl),((ae m19 1).trans rfl),((ae m16 0).trans rfl),((ae m16 1).trans rfl),((ae m16 2).trans rfl),((ae m16 3).trans rfl)⟩ (fun hHeld=>?_)
            clear hK K
            refine dY (by show Act.put _ (some 62) _ = _;simp only [Act.put,List.setIfInBounds_toArray,List.set_cons_zero,List.set_cons_succ,fe,fo];rfl) ?_
            refine dG (i:=8) (N:=some 63) aT ?_
            refine ma aT ?_
            try clear hHeld
            skip
            by_cases hy:y = 2
            case pos =>
             as_aux_lemma =>
              have hd1:(y == 2) = true:=by rw [hy];rfl
              have hd2:(y != 2) = false:=by rw [bne,hd1];rfl
              have HM2:=Lib.hid (HM.out.trans (if_pos hy))
              clear hy HM
              gi_wp2
              skip
              refine ⟨eD hN,La.below (Nat.le_trans pI hXs) hN,?_⟩
              dsimp only
              rw [HM2.out]
              exact ⟨m6,m7,m8,m11,m16,m17,mT,m14,hM,mB⟩
            case neg =>
             as_aux_lemma =>
              have hd1:(y == 2) = false:=beq_eq_false_iff_ne.2 hy
              have hd2:(y != 2) = true:=by rw [bne,hd1];rfl
              have HM2:=Lib.hid (HM.out.trans (if_neg hy))
              clear hy HM
              have c14:=(ae m14 0).trans rfl
              have f14:=aK m14 0
              gi_wp2
              skip
              obtain ⟨uE,DX,DY,yK,jV,ng,lv,zH,ed,iY,qJ,wQ,pq,jo,CJ,oq,wP,Gy,vz,Mk⟩:=HN.out
              refine ⟨(eD hN).trans ((KeepsOthers.setCell _ _ _).from _),La.set (p:=⟨g14,0,none⟩) (La.below (Nat.le_trans pI hXs) hN) afO lv zH _,?_⟩
              dsimp only
              rw [HM2.out]
              exact ⟨(ah (p:=⟨g14,0,none⟩) m6 uE _),(ah (p:=⟨g14,0,none⟩) m7 DX _),(ah (p:=⟨g14,0,none⟩) m8 DY _),(ah (p:=⟨g14,0,none⟩) m11 yK _),(ah (p:=⟨g14,0,none⟩) m16 jV _),(ah (p:=⟨g14,0,none⟩) m17 ng _),(ah (p:=⟨g14,0,none⟩) mT lv _),(az m14 0 _ rfl),(Marks.set hM m14 (i:=0) _),(Below.setCell (p:=⟨g14,0,none⟩) mB afO _)⟩
          case done =>
           as_aux_lemma =>
            rintro D_ xs X_ hD hxs ⟨m6,m7,m8,m11,m16,m17,mT,m14,hM,mB⟩ hK
            clear kE
            have hHx:Gx s v X G T iQ a (xs.map Subtype.val) = a2:=by rw [show xs.map Subtype.val = oP s from hxs];exact HST.out.symm
            rw [hHx] at m14
            clear hHx HST hxs
            have hM2:=hM.cons (fun h=>absurd (hDs D_ h) (Nat.not_lt.2 hD)) (Nat.le_trans pI hD) hK
            clear hM hK m17
            have aCf:w.heap.size≤X_.heap.size:=mB.size
            dsimp only [Exit.inBlock,Exit.then]
            apply_assumption
            refine oN (wpIn_wide.2 ?_)
            skip
            obtain ⟨uE,DX,DY,yK,jV,ng,lv,zH,ed,iY,qJ,wQ,pq,jo,CJ,oq,wP,Gy,vz,Mk⟩:=HN.out
            replace m6:=au m6
            replace m7:=au m7
            replace m8:=au m8
            replace m11:=au m11
            replace m16:=au m16
            replace mT:=au mT
            replace m14:=au m14
            replace mB:=bf mB
            replace hM2:=hM2.below (bf (Below.refl _ X_))
            refine lh (n:=7) (S:=fun w'=>w'.cell? ⟨g16,0,none⟩ = some (Z ab iQ.f0.f0)∧w'.cell? ⟨g16,1,none⟩ = some (Z ab iQ.f0.f1)∧w'.cell? ⟨g16,2,none⟩ = some (Z ab iQ.f1.f0)∧w'.cell? ⟨g16,3,none⟩ = some (Z ab iQ.f1.f1)∧w'.cell? ⟨g8,0,none⟩ = some (Z ab T)∧w'.cell? ⟨g6,0,none⟩ = some (Z ab v.speed)∧w'.cell? ⟨g6,1,none⟩ = some (Z ab v.dive)∧w'.cell? ⟨g6,2,none⟩ = some (Z ab v.use.f0)∧w'.cell? ⟨g6,3,none⟩ = some (Z ab v.use.f1)∧w'.cell? ⟨g6,4,none⟩ = some (Z ab v.drift.f0)∧w'.cell? ⟨g6,5,none⟩ = some (Z ab v.drift.f1)∧w'.cell? ⟨g6,6,none⟩ = some (Z ab v.reserve)) (ds:=[6]) #[al,al,al,al,al,al,al] aT rfl rfl ⟨((ae m16 0).trans rfl),((ae m16 1).trans rfl),((ae m16 2).trans rfl),((ae m16 3).trans rfl),((ae m8 0).trans rfl),((ae m6 0).trans rfl),((ae m6 1).trans rfl),((ae m6 2).trans rfl),((ae m6 3).trans rfl),((ae m6 4).trans rfl),((ae m6 5).trans rfl),((ae m6 6).trans rfl)⟩ (fun hHeld=>?_)
            generalize hWd:World.drew _ = Wx at m6 m7 m8 m11 m16 mT m14 hM2 mB hHeld ⊢
            clear hWd
            refine dG (i:=2) (N:=some 66) aT ?_
            refine iy (i:=0) (N:=some 64) aT hHeld ?_
            refine iy (i:=1) (N:=some 65) aT hHeld ?_
            refine iy (i:=3) (N:=some 67) aT hHeld ?_
            refine dG (i:=4) (N:=some 68) aT ?_
            refine jC (i:=5) (N:=none) #[ac,ac,ac,ac,ac,ac,al] rfl rfl aT (by decide) (fun K hK=>?_)
            have Cb:=aK m7 0
            have Fs:=aK m7 1
            have Ty:=aK m7 2
            have Tz:=aK m7 3
            have zM:=(ae m7 0).trans rfl
            have Fu:=(ae m7 1).trans rfl
            have TA:=(ae m7 2).trans rfl
            have TB:=(ae m7 3).trans rfl
            refine qp (w1:=?_) (by rfl) rfl ?_ ?_
            rotate_left
            ·go_simp
             rfl
            clear Cb zM Fs Fu Ty TA Tz TB
            refine hK.out _ _ ⟨((ae (ah (p:=⟨g7,3,none⟩) (ah (p:=⟨g7,2,none⟩) (ah (p:=⟨g7,1,none⟩) (ah (p:=⟨g7,0,none⟩) m16 jo _) jo _) jo _) jo _) 0).trans rfl),((ae (ah (p:=⟨g7,3,none⟩) (ah (p:=⟨g7,2,none⟩) (ah (p:=⟨g7,1,none⟩) (ah (p:=⟨g7,0,none⟩) m16 jo _) jo _) jo _) jo _) 1).trans rfl),((ae (ah (p:=⟨g7,3,none⟩) (ah (p:=⟨g7,2,none⟩) (ah (p:=⟨g7,1,none⟩) (ah (p:=⟨g7,0,none⟩) m16 jo _) jo _) jo _) jo _) 2).trans rfl),((ae (ah (p:=⟨g7,3,none⟩) (ah (p:=⟨g7,2,none⟩) (ah (p:=⟨g7,1,none⟩) (ah (p:=⟨g7,0,none⟩) m16 jo _) jo _) jo _) jo _) 3).trans rfl),((ae (ah (p:=⟨g7,3,none⟩) (ah (p:=⟨g7,2,none⟩) (ah (p:=⟨g7,1,none⟩) (ah (p:=⟨g7,0,none⟩) m8 iY _) iY _) iY _) iY _) 0).trans rfl),((ae (ah (p:=⟨g7,3,none⟩) (ah (p:=⟨g7,2,none⟩) (ah (p:=⟨g7,1,none⟩) (ah (p:=⟨g7,0,none⟩) m6 ed _) ed _) ed _) ed _) 0).trans rfl),((ae (ah (p:=⟨g7,3,none⟩) (ah (p:=⟨g7,2,none⟩) (ah (p:=⟨g7,1,none⟩) (ah (p:=⟨g7,0,none⟩) m6 ed _) ed _) ed _) ed _) 1).trans rfl),((ae (ah (p:=⟨g7,3,none⟩) (ah (p:=⟨g7,2,none⟩) (ah (p:=⟨g7,1,none⟩) (ah (p:=⟨g7,0,none⟩) m6 ed _) ed _) ed _) ed _) 2).trans rfl),((ae (ah (p:=⟨g7,3,none⟩) (ah (p:=⟨g7,2,none⟩) (ah (p:=⟨g7,1,none⟩) (ah (p:=⟨g7,0,none⟩) m6 ed _) ed _) ed _) ed _) 3).trans rfl),((ae (ah (p:=⟨g7,3,none⟩) (ah (p:=⟨g7,2,none⟩) (ah (p:=⟨g7,1,none⟩) (ah (p:=⟨g7,0,none⟩) m6 ed _) ed _) ed _) ed _) 4).trans rfl),((ae (ah (p:=⟨g7,3,none⟩) (ah (p:=⟨g7,2,none⟩) (ah (p:=⟨g7,1,none⟩) (ah (p:=⟨g7,0,none⟩) m6 ed _) ed _) ed _) ed _) 5).trans rfl),((ae (ah (p:=⟨g7,3,none⟩) (ah (p:=⟨g7,2,none⟩) (ah (p:=⟨g7,1,none⟩) (ah (p:=⟨g7,0,none⟩) m6 ed _) ed _) ed _) ed _) 6).trans rfl)⟩ (fun hHeld=>?_)
            clear hK K
            refine yt (i:=6) (N:=none) #[ac,ac,ac,ac,ac,ac,ac] rfl rfl aT (by decide) (fun K hK=>?_)
            have FQ:=(ah (p:=⟨g7,3,none⟩) (ah (p:=⟨g7,2,none⟩) (ah (p:=⟨g7,1,none⟩) (ah (p:=⟨g7,0,none⟩) m8 iY (Z ab iQ.f0.f0)) iY (Z ab iQ.f0.f1)) iY (Z ab iQ.f1.f0)) iY (Z ab iQ.f1.f1))
            have Cb:=aK FQ 0
            have zM:=(ae FQ 0).trans rfl
            refine qp (w1:=?_) (by rfl) rfl ?_ ?_
            rotate_left
            ·go_simp
             rfl
            refine hK.out _ _ ?_
            clear hK K
            refine ma aT ?_
            refine qo ?_
            have hl6:=HL.out
            gi_wp2
            skip
            have hq:=HQ.out
            have hv:=HDV.out
            have hwr:wrap64 (T+v.dive) = T+v.dive:=by unfold wrap64;omega
            have hkw:((k+1:Nat):Int) = (k:Int)+1:=by omega
            refine ⟨⟨k+1,iQ,wrap64 (T+v.dive),a2,D_ :: Ds,(fun k_=>(#[(u_ 0),(u_ 1),(u_ 2),(u_ 3),(u_ 4),(u_ 5),.pointer (some ⟨g6,0,none⟩),.pointer (some ⟨g7,0,none⟩),.pointer (some ⟨g8,0,none⟩),(u_ 9),(u_ 10),.pointer (some ⟨g11,0,none⟩),(u_ 12),(u_ 13),.pointer (some ⟨g14,0,none⟩),(u_ 15),.pointer (some ⟨g16,0,none⟩),.pointer (some ⟨g17,0,none⟩),Z ab 0,(u_ 19),(u_ 20),(u_ 21),(u_ 22),(u_ 23),(u_ 24),(u_ 25),(u_ 26),(u_ 27),(u_ 28),(u_ 29),(u_ 30),(u_ 31),(u_ 32),(u_ 33),(u_ 34),(u_ 35),.slice (some ad_) l.length c,Z ab (l.length:Int),Z ab (((k+1:Nat)):Int),.bool true,.pointer (some (ad_.add (k*4))),.agg #[Z ab iQ.f0.f0,Z ab iQ.f0.f1,Z ab iQ.f1.f0,Z ab iQ.f1.f1],.tuple #[.agg #[Z ab G.f0.f0,Z ab G.f0.f1,Z ab G.f1.f0,Z ab G.f1.f1],Z ab 0],.pointer (some ⟨g,0,none⟩),.agg #[Z ab X.f0.f0,Z ab X.f0.f1,Z ab X.f1.f0,Z ab X.f1.f1],Z ab T,.tuple #[.agg #[Z ab G.f0.f0,Z ab G.f0.f1,Z ab G.f1.f0,Z ab G.f1.f1],Z ab 0],.agg #[Z ab G.f0.f0,Z ab G.f0.f1,Z ab G.f1.f0,Z ab G.f1.f1],Z ab 0,Z ab 0,.bool false,(u_ 51),.pointer (some ⟨g,0,none⟩),.func (.func 129) #[] #[.pointer (some ⟨gP,0,none⟩)],(u_ 54),(u_ 55),(u_ 56),(u_ 57),(u_ 58),(u_ 59),(u_ 60),(u_ 61),(u_ 62),(u_ 63),.agg #[Z ab iQ.f0.f0,Z ab iQ.f0.f1,Z ab iQ.f1.f0,Z ab iQ.f1.f1],Z ab T,.pointer (some ⟨g6,1,none⟩),Z ab v.dive,Z ab (wrap64 (T+v.dive)),Z ab (((k+1:Nat)):Int),(u_ 70)]:Array Value).getD k_ undef),?fr,by omega,Lib.hid (by rw [hwr];exact HR3.out),Lib.hid ⟨HXS.out.2,by rw [hwr];omega,by rw [hwr];omega⟩,(Marks.set (Marks.set (Marks.set (Marks.set (Marks.set hM2 m7 (i:=0) _) (az m7 0 (Z ab iQ.f0.f0) rfl) (i:=1) _) (az (az m7 0 (Z ab iQ.f0.f0) rfl) 1 (Z ab iQ.f0.f1) rfl) (i:=2) _) (az (az (az m7 0 (Z ab iQ.f0.f0) rfl) 1 (Z ab iQ.f0.f1) rfl) 2 (Z ab iQ.f1.f0) rfl) (i:=3) _) (ah (p:=⟨g7,3,none⟩) (ah (p:=⟨g7,2,none⟩) (ah (p:=⟨g7,1,none⟩) (ah (p:=⟨g7,0,none⟩) m8 iY _) iY _) iY _) iY _) (i:=0) _),(ah (p:=⟨g8,0,none⟩) (ah (p:=⟨g7,3,none⟩) (ah (p:=⟨g7,2,none⟩) (ah (p:=⟨g7,1,none⟩) (ah (p:=⟨g7,0,none⟩) m6 ed _) ed _) ed _) ed _) CJ _),(ah (p:=⟨g8,0,none⟩) (az (az (az (az m7 0 (Z ab iQ.f0.f0) rfl) 1 (Z ab iQ.f0.f1) rfl) 2 (Z ab iQ.f1.f0) rfl) 3 (Z ab iQ.f1.f1) rfl) oq _),(az (ah (p:=⟨g7,3,none⟩) (ah (p:=⟨g7,2,none⟩) (ah (p:=⟨g7,1,none⟩) (ah (p:=⟨g7,0,none⟩) m8 iY _) iY _) iY _) iY _) 0 (Z ab (wrap64 (T+v.dive))) rfl),(ah (p:=⟨g8,0,none⟩) (ah (p:=⟨g7,3,none⟩) (ah (p:=⟨g7,2,none⟩) (ah (p:=⟨g7,1,none⟩) (ah (p:=⟨g7,0,none⟩) m11 qJ _) qJ _) qJ _) qJ _) wP _),(ah (p:=⟨g8,0,none⟩) (ah (p:=⟨g7,3,none⟩) (ah (p:=⟨g7,2,none⟩) (ah (p:=⟨g7,1,none⟩) (ah (p:=⟨g7,0,none⟩) m14 wQ _) wQ _) wQ _) wQ _) Gy _),(ah (p:=⟨g8,0,none⟩) (ah (p:=⟨g7,3,none⟩) (ah (p:=⟨g7,2,none⟩) (ah (p:=⟨g7,1,none⟩) (ah (p:=⟨g7,0,none⟩) mT pq _) pq _) pq _) pq _) vz _),(Below.setCell (p:=⟨g8,0,none⟩) (Below.setCell (p:=⟨g7,3,none⟩) (Below.setCell (p:=⟨g7,2,none⟩) (Below.setCell (p:=⟨g7,1,none⟩) (Below.setCell (p:=⟨g7,0,none⟩) mB hG7 _) hG7 _) hG7 _) hG7 _) Sa _)⟩,by simp [intOf];omega⟩
            case fr=>first|rfl|(rw [hkw];rfl)
end Go.Proofs.Ytmhaiihjfgfaoaa.Gl
end
