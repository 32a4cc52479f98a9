import Derived.Test.YtmhaiihjfgfaoaaGnGliderNever3
import Derived.Test.YtmhaiihjfgfaoaaGnGliderNever24
set_option linter.unusedSimpArgs false
set_option linter.unusedVariables false
open Go.Value renaming int → Z
open Go.IntKind renaming i64 → ab
open Bool renaming true → ac, false → al
section
namespace Go.Proofs.Ytmhaiihjfgfaoaa.Gl
open Go.RowKit Go.Shelf Go.Proofs.YtmhaiihjfgfaoaaW.PrintWords Go.Proofs.YtmhaiihjfgfaoaaW.PrintLast Go.Proofs.YtmhaiihjfgfaoaaW.PrintMore Go.Proofs.Ytmhaiihjfgfaoaa.Pr Go.Proofs.YtmhaiihjfgfaoaaW.Round
set_option linter.unusedVariables false
set_option linter.unusedSimpArgs false
attribute [local go_sem] dw dx dM dN dz
attribute [local go_sem] Oper.semAt_some
theorem jL.Qy {w:World} {gL gB B:Nat} {R:List eQ × Int} {plan:List eQ} {pv bv:Value} {V X Y:World} {row:Option Nat} (hw:w.heap.size≤V.heap.size) (hV:V.heap.size≤B) (h:jL w gL gB R plan pv bv V X) (hg:X.grownBy Y row) (hr:∀ r,row = some r→B≤r∧∃ o:Obj,X.heap[r]? = some o∧o.isCells = false):jL w gL gB R plan pv bv V Y:=by
 obtain ⟨h1,h2,bv',⟨h3,h4,h5⟩,h6⟩:=h
 exact ⟨qf.alJ hw hV () X Y row h1 hg hr,h2.Qy hg hr,bv',⟨eO h3 hg hr,eO h4 hg hr,h5.Qy hg hr⟩,h6⟩
theorem jL.below {w:World} {gL gB:Nat} {R:List eQ × Int} {plan:List eQ} {pv bv:Value} {V X Y:World} (h:jL w gL gB R plan pv bv V X) (hX:w.heap.size≤X.heap.size) (hb:Below X.heap.size X Y):jL w gL gB R plan pv bv V Y:=by
 obtain ⟨h1,h2,bv',⟨h3,h4,h5⟩,h6⟩:=h
 exact ⟨h1.step hX hb,h2.below hb,bv',⟨af h3 hb,af h4 hb,h5.below hb⟩,h6⟩
theorem jL.back {w:World} {gL gB:Nat} {R R0:List eQ × Int} {plan:List eQ} {c:eQ} {pv bv v1:Value} {W0 W1 W:World} {e:Ending} (hA:vD w gL gB bv R0 W1) (h1:Below w.heap.size W0 W1) (hk:∀ k,k < W0.heap.size→some k≠pv.ownBlock→W1.heap[k]? = W0.heap[k]?) (hP:bN W0 w.heap.size pv plan) (hst:bN W1 w.heap.size pv plan)
 (hb:(v1.ownBlock = pv.ownBlock∧∀ W':World,bN W' w.heap.size v1 (plan++[c])→bN W' w.heap.size pv plan)∨∃ b,v1.ownBlock = some b∧W0.heap.size≤b)
 (h:G5 w gL gB R (plan++[c]) v1 bv W1 e W):jL w gL gB R plan pv bv W0 W:=by
 obtain ⟨_,h2,h3,bv',h4,h5⟩:=h
 have k1:qf w gL gB pv.ownBlock W0 W1:=⟨h1,fun k hk1 _ _ n3=>hk k hk1 n3⟩
 refine ⟨k1.then h2 ?_,?_,bv',h4,fun k hk2=>?_⟩
 ·rcases hb with ⟨e1,_⟩|⟨b,e1,e2⟩
  ·exact .inl e1
  ·exact .inr ⟨b,e1,e2⟩
 ·rcases hb with ⟨_,e2⟩|⟨b,e1,e2⟩
  ·exact e2 W h3
  ·refine hst.jJ h2 (bN.ne hst hA.1 (by decide)) (bN.ne hst hA.2.1 (by decide)) (fun k hk2 he=>?_)
   rw [e1] at he
   injection he with he
   have:=(hP.lt k hk2).2
   omega
 ·rcases h5 k hk2 with h5|h5
  ·exact .inl h5
  ·exact .inr (Nat.le_trans h1.size h5)
theorem rZ {w:World} {gL gB B:Nat} {R:List eQ × Int} {plan:List eQ} {pv bv:Value} {X W:World} (hA:vD w gL gB bv R X) (hP:bN X w.heap.size pv plan) (h:qf w gL gB pv.ownBlock X W):KeepsFrom B X W :=
 ⟨h.1.size,fun k ob _ h0 ho=>by
  have hne:∀ {g:Nat} {cs:Array Value} {t:TypeId},aZ X g cs t→k≠g:=by
   rintro g cs t hb rfl
   rw [show X.heap[_]? = _ from hb] at h0
   cases h0
   cases ho
  refine (h.2 k (Array.getElem?_eq_some_iff.1 h0).1 (hne hA.1) (hne hA.2.1) (fun e=>?_)).trans h0
  obtain ⟨cells,hc⟩:=yj hP k e.symm
  rw [hc] at h0
  cases h0
  cases ho⟩
def ait (w:World) (s:fT) (v:iw) (p:xz) (g gX gV gK gG gL gB:Nat) (B7 B8:Option Addr) (d7 d8:Nat) (n:Nat):Prop:=∀ (x:cZ) (t left cost m:Int) (plan:List eQ) (there:Bool) (st:List eQ × Int) (pv bv:Value) (V:World),m = (n:Int)→0 < plan.length+n→plan.length+n≤3→gp x→(0≤t∧t≤1073741824+(plan.length:Int)*131072)→(0≤left∧left≤1073741824)→(0≤cost∧cost≤(plan.length:Int)*1073741824)→
 agf w s v p g gX gV gK gG gL gB B7 B8 d7 d8 V→vD w gL gB bv st V→bN V w.heap.size pv plan→(∀ k,bv.ownBlock = some k→some k≠pv.ownBlock)→
 Calls Try.prog 107 #[.agg #[Z ab x.f0.f0,Z ab x.f0.f1,Z ab x.f1.f0,Z ab x.f1.f1],Z ab t,Z ab left,Z ab cost,pv,.bool there,Z ab m,.pointer (some ⟨gL,0,none⟩),.pointer (some ⟨gB,0,none⟩),.pointer (some ⟨gX,0,none⟩),.pointer (some ⟨gV,0,none⟩),.pointer (some ⟨gK,0,none⟩),.pointer (some ⟨gG,0,none⟩)] V (G5 w gL gB (sK s v p n x t left cost plan there st) plan pv bv V)
set_option maxRecDepth 100000 in
set_option maxHeartbeats 64000000 in
theorem agi (w:World) (s:fT) (v:iw) (p:xz) (g gX gV gK gG gL gB:Nat) (B7 B8:Option Addr) (d7 d8:Nat) (hTA:∀ W',Below w.heap.size w W'→aZ W' g #[Z ab s.nx,Z ab s.ny,Z ab s.cell,Z ab s.slot,Z ab s.slots,Z ab s.layers,Z ab s.most,.slice B7 s.shores.length d7,.slice B8 s.currents.length d8,Z ab v.speed,Z ab v.dive,Z ab v.use.f0,Z ab v.use.f1,Z ab v.drift.f0,Z ab v.drift.f1,Z ab v.reserve] 110→dZ W' g s v) (hS:BQ s) (hV:uF v) (hv:uq v = true) (hGL:w.heap.size≤gL) (hGB:w.heap.size≤gB) (n:Nat) (IH:ait w s v p g gX gV gK gG gL gB B7 B8 d7 d8 n)
 (x:cZ) (t left cost m:Int) (plan:List eQ) (there:Bool) (st:List eQ × Int) (Ap:Option Addr) (cp:Nat) (bv:Value) (V:World) (hm:m = (n:Int)+1) (hpl:plan.length+(n+1)≤3) (hx:gp x) (ht:0≤t∧t≤1073741824+(plan.length:Int)*131072) (hl:0≤left∧left≤1073741824) (hc:0≤cost∧cost≤(plan.length:Int)*1073741824)
 (hE:agf w s v p g gX gV gK gG gL gB B7 B8 d7 d8 V) (hA:vD w gL gB bv st V) (hP:bN V w.heap.size (Value.slice Ap plan.length cp) plan) (hbn:∀ k,bv.ownBlock = some k→some k≠((Value.slice Ap plan.length cp)).ownBlock):
 Calls Try.prog 107 #[.agg #[Z ab x.f0.f0,Z ab x.f0.f1,Z ab x.f1.f0,Z ab x.f1.f1],Z ab t,Z ab left,Z ab cost,(Value.slice Ap plan.length cp),.bool there,Z ab m,.pointer (some ⟨gL,0,none⟩),.pointer (some ⟨gB,0,none⟩),.pointer (some ⟨gX,0,none⟩),.pointer (some ⟨gV,0,none⟩),.pointer (some ⟨gK,0,none⟩),.pointer (some ⟨gG,0,none⟩)] V (G5 w gL gB (sK s v p (n+1) x t left cost plan there st) plan (Value.slice Ap plan.length cp) bv V):=by
 have pG:=Try.underlying31
 have F5:=Try.underlying33
 have mE:=Try.underlying27
 have xX:=Try.underlying29
 have abI:=Try.underlying81
 have awW:∀ (x0_ x1_:Value) (W_:World),(Instr.field 27 (.agg #[x0_,x1_]) 1).run Try.prog W_ = .ok (x1_) W_:=fun _ _ W_=>by kernel_rfl
 have HTA:=Lib.hid hTA
 clear hTA
 have HS:Hid (sK s v p (n+1) x t left cost plan there st = (oP s).foldl (stepG s v p n x t left cost plan there) st):=Lib.hid (Qw _ _ _ _ _ _ _ _ _ _ _)
 have HD0:Hid (jv s v x t≠0→sK s v p (n+1) x t left cost plan there st = st):=Lib.hid (fun hd=>(Qw _ _ _ _ _ _ _ _ _ _ _).trans (vC _ _ (fun st c _=>by unfold stepG;rw [if_pos hd];exact KP _ _ _ _ _)))
 generalize sK s v p (n+1) x t left cost plan there st = RR at*
 have hmz:(m == 0) = false:=beq_eq_false_iff_ne.2 (by omega)
 have HMM:=Lib.hid hm
 clear hm
 obtain ⟨mB,mT,mX,mV,mK,mG⟩:=hE
 obtain ⟨mL,mBe,HC⟩:=hA
 have hsV:w.heap.size≤V.heap.size:=mB.size
 have hltL:=aD mL
 have hltB:=aD mBe
 have HBN:=Lib.hid hbn
 clear hbn
 have hPlt:∀ k,((Value.slice Ap plan.length cp)).ownBlock = some k→k < V.heap.size:=fun k hk=>(hP.lt k hk).2
 refine (callsIn_wide (n:=7)).1 ?_
 refine callsIn_of_wp_marks Try.func107 rfl trivial ?_ rfl
 simp only [Try.ntmps107,List.size_toArray,List.length_cons,List.length_nil,Nat.reduceAdd,Nat.reduceSub,Array.replicate_succ,Array.replicate_zero,List.push_toArray,List.append_toArray,List.nil_append,List.cons_append]
 gi_wp2_with fail
 have aie:w.heap.size≤V.heap.size:=mB.size
 have hb0:=(ai (ai (ai (ai (ai (ai (ai (Below.refl V.heap.size V) (.cells #[Z ab x.f0.f0,Z ab x.f0.f1,Z ab x.f1.f0,Z ab x.f1.f1] 31)) (.cells #[Z ab t] 2)) (.cells #[Z ab left] 2)) (.cells #[Z ab cost] 2)) (.cells #[(Value.slice Ap plan.length cp)] 49)) (.cells #[.bool there] 4)) (.cells #[Z ab m] 3))
 have hVW:=hb0.size
 have HP:=bN.below hP hb0
 replace HC:=bN.below HC hb0
 have hKp:qf w gL gB ((Value.slice Ap plan.length cp)).ownBlock V _:=qf.of_below aie hb0
 clear hb0 hP
 have mF:=aD mT
 have abW:=aD mX
 have abX:=aD mV
 have abY:=aD mK
 have abZ:=aD mG
 have Vo:=aD mL
 have G6:=aD mBe
 have m13:aZ (((((((V.alloc (.cells #[Z ab x.f0.f0,Z ab x.f0.f1,Z ab x.f1.f0,Z ab x.f1.f1] 31)).alloc (.cells #[Z ab t] 2)).alloc (.cells #[Z ab left] 2)).alloc (.cells #[Z ab cost] 2)).alloc (.cells #[(Value.slice Ap plan.length cp)] 49)).alloc (.cells #[.bool there] 4)).alloc (.cells #[Z ab m] 3)) (V.heap.size) #[Z ab x.f0.f0,Z ab x.f0.f1,Z ab x.f1.f0,Z ab x.f1.f1] 31:=(aa (aa (aa (aa (aa (aa asw _) _) _) _) _) _)
 have m14:aZ (((((((V.alloc (.cells #[Z ab x.f0.f0,Z ab x.f0.f1,Z ab x.f1.f0,Z ab x.f1.f1] 31)).alloc (.cells #[Z ab t] 2)).alloc (.cells #[Z ab left] 2)).alloc (.cells #[Z ab cost] 2)).alloc (.cells #[(Value.slice Ap plan.length cp)] 49)).alloc (.cells #[.bool there] 4)).alloc (.cells #[Z ab m] 3)) (V.heap.size+1) #[Z ab t] 2:=(aa (aa (aa (aa (aa asx _) _) _) _) _)
 have m15:aZ (((((((V.alloc (.cells #[Z ab x.f0.f0,Z ab x.f0.f1,Z ab x.f1.f0,Z ab x.f1.f1] 31)).alloc (.cells #[Z ab t] 2)).alloc (.cells #[Z ab left] 2)).alloc (.cells #[Z ab cost] 2)).alloc (.cells #[(Value.slice Ap plan.length cp)] 49)).alloc (.cells #[.bool there] 4)).alloc (.cells #[Z ab m] 3)) (V.heap.size+1+1) #[Z ab left] 2:=(aa (aa (aa (aa asy _) _) _) _)
 have m16:aZ (((((((V.alloc (.cells #[Z ab x.f0.f0,Z ab x.f0.f1,Z ab x.f1.f0,Z ab x.f1.f1] 31)).alloc (.cells #[Z ab t] 2)).alloc (.cells #[Z ab left] 2)).alloc (.cells #[Z ab cost] 2)).alloc (.cells #[(Value.slice Ap plan.length cp)] 49)).alloc (.cells #[.bool there] 4)).alloc (.cells #[Z ab m] 3)) (V.heap.size+1+1+1) #[Z ab cost] 2:=(aa (aa (aa asz _) _) _)
 have m17:aZ (((((((V.alloc (.cells #[Z ab x.f0.f0,Z ab x.f0.f1,Z ab x.f1.f0,Z ab x.f1.f1] 31)).alloc (.cells #[Z ab t] 2)).alloc (.cells #[Z ab left] 2)).alloc (.cells #[Z ab cost] 2)).alloc (.cells #[(Value.slice Ap plan.length cp)] 49)).alloc (.cells #[.bool there] 4)).alloc (.cells #[Z ab m] 3)) (V.heap.size+1+1+1+1) #[(Value.slice Ap plan.length cp)] 49:=(aa (aa asA _) _)
 have m18:aZ (((((((V.alloc (.cells #[Z ab x.f0.f0,Z ab x.f0.f1,Z ab x.f1.f0,Z ab x.f1.f1] 31)).alloc (.cells #[Z ab t] 2)).alloc (.cells #[Z ab left] 2)).alloc (.cells #[Z ab cost] 2)).alloc (.cells #[(Value.slice Ap plan.length cp)] 49)).alloc (.cells #[.bool there] 4)).alloc (.cells #[Z ab m] 3)) (V.heap.size+1+1+1+1+1) #[.bool there] 4:=(aa asB _)
 have m19:aZ (((((((V.alloc (.cells #[Z ab x.f0.f0,Z ab x.f0.f1,Z ab x.f1.f0,Z ab x.f1.f1] 31)).alloc (.cells #[Z ab t] 2)).alloc (.cells #[Z ab left] 2)).alloc (.cells #[Z ab cost] 2)).alloc (.cells #[(Value.slice Ap plan.length cp)] 49)).alloc (.cells #[.bool there] 4)).alloc (.cells #[Z ab m] 3)) (V.heap.size+1+1+1+1+1+1) #[Z ab m] 3:=(by have h_:=bB ((((((V.alloc (.cells #[Z ab x.f0.f0,Z ab x.f0.f1,Z ab x.f1.f0,Z ab x.f1.f1] 31)).alloc (.cells #[Z ab t] 2)).alloc (.cells #[Z ab left] 2)).alloc (.cells #[Z ab cost] 2)).alloc (.cells #[(Value.slice Ap plan.length cp)] 49)).alloc (.cells #[.bool there] 4)) (.cells #[Z ab m] 3);first|exact h_|(simp only [World.size_alloc] at h_;exact h_))
 replace mT:aZ (((((((V.alloc (.cells #[Z ab x.f0.f0,Z ab x.f0.f1,Z ab x.f1.f0,Z ab x.f1.f1] 31)).alloc (.cells #[Z ab t] 2)).alloc (.cells #[Z ab left] 2)).alloc (.cells #[Z ab cost] 2)).alloc (.cells #[(Value.slice Ap plan.length cp)] 49)).alloc (.cells #[.bool there] 4)).alloc (.cells #[Z ab m] 3)) g #[Z ab s.nx,Z ab s.ny,Z ab s.cell,Z ab s.slot,Z ab s.slots,Z ab s.layers,Z ab s.most,.slice B7 s.shores.length d7,.slice B8 s.currents.length d8,Z ab v.speed,Z ab v.dive,Z ab v.use.f0,Z ab v.use.f1,Z ab v.drift.f0,Z ab v.drift.f1,Z ab v.reserve] 110:=(aa (aa (aa (aa (aa (aa (aa mT _) _) _) _) _) _) _)
 replace mX:aZ (((((((V.alloc (.cells #[Z ab x.f0.f0,Z ab x.f0.f1,Z ab x.f1.f0,Z ab x.f1.f1] 31)).alloc (.cells #[Z ab t] 2)).alloc (.cells #[Z ab left] 2)).alloc (.cells #[Z ab cost] 2)).alloc (.cells #[(Value.slice Ap plan.length cp)] 49)).alloc (.cells #[.bool there] 4)).alloc (.cells #[Z ab m] 3)) gX #[.pointer (some ⟨g,0,none⟩)] 104:=(aa (aa (aa (aa (aa (aa (aa mX _) _) _) _) _) _) _)
 replace mV:aZ (((((((V.alloc (.cells #[Z ab x.f0.f0,Z ab x.f0.f1,Z ab x.f1.f0,Z ab x.f1.f1] 31)).alloc (.cells #[Z ab t] 2)).alloc (.cells #[Z ab left] 2)).alloc (.cells #[Z ab cost] 2)).alloc (.cells #[(Value.slice Ap plan.length cp)] 49)).alloc (.cells #[.bool there] 4)).alloc (.cells #[Z ab m] 3)) gV #[Z ab v.speed,Z ab v.dive,Z ab v.use.f0,Z ab v.use.f1,Z ab v.drift.f0,Z ab v.drift.f1,Z ab v.reserve] 29:=(aa (aa (aa (aa (aa (aa (aa mV _) _) _) _) _) _) _)
 replace mK:aZ (((((((V.alloc (.cells #[Z ab x.f0.f0,Z ab x.f0.f1,Z ab x.f1.f0,Z ab x.f1.f1] 31)).alloc (.cells #[Z ab t] 2)).alloc (.cells #[Z ab left] 2)).alloc (.cells #[Z ab cost] 2)).alloc (.cells #[(Value.slice Ap plan.length cp)] 49)).alloc (.cells #[.bool there] 4)).alloc (.cells #[Z ab m] 3)) gK #[Z ab p.f0.f0.f0,Z ab p.f0.f0.f1,Z ab p.f0.f1.f0,Z ab p.f0.f1.f1,Z ab p.f1,Z ab p.f2] 81:=(aa (aa (aa (aa (aa (aa (aa mK _) _) _) _) _) _) _)
 replace mG:aZ (((((((V.alloc (.cells #[Z ab x.f0.f0,Z ab x.f0.f1,Z ab x.f1.f0,Z ab x.f1.f1] 31)).alloc (.cells #[Z ab t] 2)).alloc (.cells #[Z ab left] 2)).alloc (.cells #[Z ab cost] 2)).alloc (.cells #[(Value.slice Ap plan.length cp)] 49)).alloc (.cells #[.bool there] 4)).alloc (.cells #[Z ab m] 3)) gG #[.func (.func 107) #[] #[.pointer (some ⟨gL,0,none⟩),.pointer (some ⟨gB,0,none⟩),.pointer (some ⟨gX,0,none⟩),.pointer (some ⟨gV,0,none⟩),.pointer (some ⟨gK,0,none⟩),.pointer (some ⟨gG,0,none⟩)]] 141:=(aa (aa (aa (aa (aa (aa (aa mG _) _) _) _) _) _) _)
 replace mL:aZ (((((((V.alloc (.cells #[Z ab x.f0.f0,Z ab x.f0.f1,Z ab x.f1.f0,Z ab x.f1.f1] 31)).alloc (.cells #[Z ab t] 2)).alloc (.cells #[Z ab left] 2)).alloc (.cells #[Z ab cost] 2)).alloc (.cells #[(Value.slice Ap plan.length cp)] 49)).alloc (.cells #[.bool there] 4)).alloc (.cells #[Z ab m] 3)) gL #[Z ab st.2] 2:=(aa (aa (aa (aa (aa (aa (aa mL _) _) _) _) _) _) _)
 replace mBe:aZ (((((((V.alloc (.cells #[Z ab x.f0.f0,Z ab x.f0.f1,Z ab x.f1.f0,Z ab x.f1.f1] 31)).alloc (.cells #[Z ab t] 2)).alloc (.cells #[Z ab left] 2)).alloc (.cells #[Z ab cost] 2)).alloc (.cells #[(Value.slice Ap plan.length cp)] 49)).alloc (.cells #[.bool there] 4)).alloc (.cells #[Z ab m] 3)) gB #[bv] 49:=(aa (aa (aa (aa (aa (aa (aa mBe _) _) _) _) _) _) _)
 replace mB:Below w.heap.size w (((((((V.alloc (.cells #[Z ab x.f0.f0,Z ab x.f0.f1,Z ab x.f1.f0,Z ab x.f1.f1] 31)).alloc (.cells #[Z ab t] 2)).alloc (.cells #[Z ab left] 2)).alloc (.cells #[Z ab cost] 2)).alloc (.cells #[(Value.slice Ap plan.length cp)] 49)).alloc (.cells #[.bool there] 4)).alloc (.cells #[Z ab m] 3)):=(ai (ai (ai (ai (ai (ai (ai mB _) _) _) _) _) _) _)
 have dU:w.heap.size≤V.heap.size:=aie
 generalize jq:(((((((V.alloc (.cells #[Z ab x.f0.f0,Z ab x.f0.f1,Z ab x.f1.f0,Z ab x.f1.f1] 31)).alloc (.cells #[Z ab t] 2)).alloc (.cells #[Z ab left] 2)).alloc (.cells #[Z ab cost] 2)).alloc (.cells #[(Value.slice Ap plan.length cp)] 49)).alloc (.cells #[.bool there] 4)).alloc (.cells #[Z ab m] 3)) = W1 at mT mX mV mK mG mL mBe m13 m14 m15 m16 m17 m18 m19 mB HP HC hKp hVW ⊢
 clear jq
 generalize Us:V.heap.size = g13 at m13 m14 m15 m16 m17 m18 m19 ⊢
 have Hd:g≠g13:=by omega
 have He:gX≠g13:=by omega
 have Hf:gV≠g13:=by omega
 have Hg:gK≠g13:=by omega
 have Hl:gG≠g13:=by omega
 have xB:gL≠g13:=by omega
 have sN:gB≠g13:=by omega
 have MF:g13≠g:=Hd.symm
 have MG:g13≠gX:=He.symm
 have MH:g13≠gV:=Hf.symm
 have MI:g13≠gK:=Hg.symm
 have MJ:g13≠gG:=Hl.symm
 have G7:g13≠gL:=xB.symm
 have CR:g13≠gB:=sN.symm
 have Kk:w.heap.size≤g13:=by omega
 generalize Tv:g13+1 = g14 at m14 m15 m16 m17 m18 m19 ⊢
 have lv:g≠g14:=by omega
 have zJ:gX≠g14:=by omega
 have Hm:gV≠g14:=by omega
 have Ho:gK≠g14:=by omega
 have Hq:gG≠g14:=by omega
 have xC:gL≠g14:=by omega
 have sO:gB≠g14:=by omega
 have sP:g13≠g14:=by omega
 have vP:g14≠g:=lv.symm
 have zI:g14≠gX:=zJ.symm
 have MK:g14≠gV:=Hm.symm
 have ML:g14≠gK:=Ho.symm
 have MM:g14≠gG:=Hq.symm
 have Eo:g14≠gL:=xC.symm
 have CS:g14≠gB:=sO.symm
 have yT:g14≠g13:=sP.symm
 have afO:w.heap.size≤g14:=by omega
 generalize apL:g14+1 = g15 at m15 m16 m17 m18 m19 ⊢
 have Hr:g≠g15:=by omega
 have Ht:gX≠g15:=by omega
 have Hu:gV≠g15:=by omega
 have Hw:gK≠g15:=by omega
 have Hy:gG≠g15:=by omega
 have xD:gL≠g15:=by omega
 have sQ:gB≠g15:=by omega
 have sS:g13≠g15:=by omega
 have sU:g14≠g15:=by omega
 have MN:g15≠g:=Hr.symm
 have MO:g15≠gX:=Ht.symm
 have MP:g15≠gV:=Hu.symm
 have MQ:g15≠gK:=Hw.symm
 have MR:g15≠gG:=Hy.symm
 have Ep:g15≠gL:=xD.symm
 have CU:g15≠gB:=sQ.symm
 have yU:g15≠g13:=sS.symm
 have yV:g15≠g14:=sU.symm
 have asC:w.heap.size≤g15:=by omega
 generalize abp:g15+1 = g16 at m16 m17 m18 m19 ⊢
 have qw:g≠g16:=by omega
 have Hz:gX≠g16:=by omega
 have H9:gV≠g16:=by omega
 have Ia:gK≠g16:=by omega
 have Ib:gG≠g16:=by omega
 have xE:gL≠g16:=by omega
 have sV:gB≠g16:=by omega
 have sW:g13≠g16:=by omega
 have gN:g14≠g16:=by omega
 have sZ:g15≠g16:=by omega
 have vQ:g16≠g:=qw.symm
 have MS:g16≠gX:=Hz.symm
 have MU:g16≠gV:=H9.symm
 have MV:g16≠gK:=Ia.symm
 have MW:g16≠gG:=Ib.symm
 have Er:g16≠gL:=xE.symm
 have vE:g16≠gB:=sV.symm
 have yX:g16≠g13:=sW.symm
 have jV:g16≠g14:=gN.symm
 have yY:g16≠g15:=sZ.symm
 have Lr:w.heap.size≤g16:=by omega
 generalize abH:g16+1 = g17 at m17 m18 m19 ⊢
 have qK:g≠g17:=by omega
 have Ic:gX≠g17:=by omega
 have Ie:gV≠g17:=by omega
 have Ig:gK≠g17:=by omega
 have Ih:gG≠g17:=by omega
 have xG:gL≠g17:=by omega
 have tq:gB≠g17:=by omega
 have tu:g13≠g17:=by omega
 have oG:g14≠g17:=by omega
 have tC:g15≠g17:=by omega
 have oH:g16≠g17:=by omega
 have wS:g17≠g:=qK.symm
 have MX:g17≠gX:=Ic.symm
 have MZ:g17≠gV:=Ie.symm
 have M0:g17≠gK:=Ig.symm
 have M3:g17≠gG:=Ih.symm
 have G8:g17≠gL:=xG.symm
 have tF:g17≠gB:=tq.symm
 have yZ:g17≠g13:=tu.symm
 have ng:g17≠g14:=oG.symm
 have za:g17≠g15:=tC.symm
 have sI:g17≠g16:=oH.symm
 have als:w.heap.size≤g17:=by omega
 generalize apM:g17+1 = g18 at m18 m19 ⊢
 have Ii:g≠g18:=by omega
 have Ij:gX≠g18:=by omega
 have Ik:gV≠g18:=by omega
 have Il:gK≠g18:=by omega
 have Im:gG≠g18:=by omega
 have xH:gL≠g18:=by omega
 have tH:gB≠g18:=by omega
 have tJ:g13≠g18:=by omega
 have tK:g14≠g18:=by omega
 have tL:g15≠g18:=by omega
 have tN:g16≠g18:=by omega
 have tO:g17≠g18:=by omega
 have M4:g18≠g:=Ii.symm
 have M5:g18≠gX:=Ij.symm
 have M6:g18≠gV:=Ik.symm
 have M7:g18≠gK:=Il.symm
 have M8:g18≠gG:=Im.symm
 have G9:g18≠gL:=xH.symm
 have CV:g18≠gB:=tH.symm
 have zb:g18≠g13:=tJ.symm
 have ze:g18≠g14:=tK.symm
 have zf:g18≠g15:=tL.symm
 have zg:g18≠g16:=tN.symm
 have zh:g18≠g17:=tO.symm
 have asD:w.heap.size≤g18:=by omega
 generalize aif:g18+1 = g19 at m19 ⊢
 have xJ:g≠g19:=by omega
 have Io:gX≠g19:=by omega
 have Ip:gV≠g19:=by omega
 have Iq:gK≠g19:=by omega
 have Ir:gG≠g19:=by omega
 have xI:gL≠g19:=by omega
 have tQ:gB≠g19:=by omega
 have tT:g13≠g19:=by omega
 have tV:g14≠g19:=by omega
 have tX:g15≠g19:=by omega
 have tY:g16≠g19:=by omega
 have oI:g17≠g19:=by omega
 have tZ:g18≠g19:=by omega
 have Et:g19≠g:=xJ.symm
 have M9:g19≠gX:=Io.symm
 have Na:g19≠gV:=Ip.symm
 have Nb:g19≠gK:=Iq.symm
 have Nc:g19≠gG:=Ir.symm
 have Ha:g19≠gL:=xI.symm
 have CW:g19≠gB:=tQ.symm
 have zi:g19≠g13:=tT.symm
 have zk:g19≠g14:=tV.symm
 have zl:g19≠g15:=tX.symm
 have zm:g19≠g16:=tY.symm
 have uf:g19≠g17:=oI.symm
 have zn:g19≠g18:=tZ.symm
 have alK:w.heap.size≤g19:=by omega
 clear dU mF abW abX abY abZ Vo G6
 try clear aif
 try clear apM
 try clear abH
 try clear abp
 try clear apL
 try clear Tv
 try clear Us
 have lC:w.heap.size≤W1.heap.size:=mB.size
 have HN:Hid (g14≠gL∧g15≠gL∧g16≠gL∧g17≠gB):=Lib.hid ⟨Eo,Ep,Er,tF⟩
 try clear JQ
 try clear ab0
 try clear ab1
 try clear ab2
 try clear ab3
 try clear Vq
 try clear Hd lv Hr qw qK Ii xJ
 try clear PM
 try clear ab4
 try clear ab5
 try clear ab6
 try clear ab7
 try clear Vr
 try clear He zJ Ht Hz Ic Ij Io
 try clear ab8
 try clear ab9
 try clear aca
 try clear acb
 try clear acd
 try clear Vs
 try clear Hf Hm Hu H9 Ie Ik Ip
 try clear ace
 try clear acf
 try clear acg
 try clear ach
 try clear aci
 try clear Vt
 try clear Hg Ho Hw Ia Ig Il Iq
 try clear acj
 try clear ack
 try clear acm
 try clear acn
 try clear aco
 try clear Vu
 try clear Hl Hq Hy Ib Ih Im Ir
 try clear acp
 try clear acr
 try clear acs
 try clear acu
 try clear acv
 try clear Vv
 try clear xB xC xD xE xG xH xI
 try clear Vw
 try clear Vx
 try clear Vy
 try clear Vz
 try clear VA
 try clear VB
 try clear sN sO sQ sV tq tH tQ
 try clear MF
 try clear MG
 try clear MH
 try clear MI
 try clear MJ
 try clear G7
 try clear CR
 try clear sP sS sW tu tJ tT
 try clear vP
 try clear zI
 try clear MK
 try clear ML
 try clear MM
 try clear Eo
 try clear CS
 try clear yT sU gN oG tK tV
 try clear MN
 try clear MO
 try clear MP
 try clear MQ
 try clear MR
 try clear Ep
 try clear CU
 try clear yU yV sZ tC tL tX
 try clear vQ
 try clear MS
 try clear MU
 try clear MV
 try clear MW
 try clear Er
 try clear vE
 try clear yX jV yY oH tN tY
 try clear wS
 try clear MX
 try clear MZ
 try clear M0
 try clear M3
 try clear G8
 try clear tF
 try clear yZ ng za sI tO oI
 try clear M4
 try clear M5
 try clear M6
 try clear M7
 try clear M8
 try clear G9
 try clear CV
 try clear zb ze zf zg zh tZ
 try clear Et
 try clear M9
 try clear Na
 try clear Nb
 try clear Nc
 try clear Ha
 try clear CW
 try clear zi zk zl zm uf zn
 clear Kk afO asC Lr als asD alK
 refine abT ?_
 have Zd:=(ae m19 0).trans rfl
 gi_wp2_with fail
 clear Zd
 skip
 refine wpIn_label ?_
 try dsimp only [Exit.then]
 try apply_assumption
 skip
 have aiu:=(ae mX 0).trans rfl
 gi_wp2_with fail
 clear aiu
 skip
 have hcon:=Cw g W1
 refine ⟨trivial,(callsIn_wide.2 hcon).mono ?_⟩
 clear hcon
 rintro e _ ⟨rfl,rfl⟩
 gi_wp2_with fail
 have hb1:=ai (Below.refl W1.heap.size W1) (.cells #[.pointer (some ⟨g,0,none⟩)] 104)
 replace hVW:=Nat.le_trans hVW hb1.size
 replace HP:=bN.below HP hb1
 replace HC:=bN.below HC hb1
 replace hKp:=qf.step hKp lC hb1
 clear hb1
 have mF:=aD mT
 have abW:=aD mX
 have abX:=aD mV
 have abY:=aD mK
 have abZ:=aD mG
 have Vo:=aD mL
 have G6:=aD mBe
 have Qf:=aD m13
 have yu:=aD m14
 have Ze:=aD m15
 have GA:=aD m16
 have GH:=aD m17
 have Zf:=aD m18
 have Zg:=aD m19
 have mQ:aZ (W1.alloc (.cells #[.pointer (some ⟨g,0,none⟩)] 104)) (W1.heap.size) #[.pointer (some ⟨g,0,none⟩)] 104:=(by have h_:=bB W1 (.cells #[.pointer (some ⟨g,0,none⟩)] 104);first|exact h_|(simp only [World.size_alloc] at h_;exact h_))
 replace mT:aZ (W1.alloc (.cells #[.pointer (some ⟨g,0,none⟩)] 104)) g #[Z ab s.nx,Z ab s.ny,Z ab s.cell,Z ab s.slot,Z ab s.slots,Z ab s.layers,Z ab s.most,.slice B7 s.shores.length d7,.slice B8 s.currents.length d8,Z ab v.speed,Z ab v.dive,Z ab v.use.f0,Z ab v.use.f1,Z ab v.drift.f0,Z ab v.drift.f1,Z ab v.reserve] 110:=(aa mT _)
 replace mX:aZ (W1.alloc (.cells #[.pointer (some ⟨g,0,none⟩)] 104)) gX #[.pointer (some ⟨g,0,none⟩)] 104:=(aa mX _)
 replace mV:aZ (W1.alloc (.cells #[.pointer (some ⟨g,0,none⟩)] 104)) gV #[Z ab v.speed,Z ab v.dive,Z ab v.use.f0,Z ab v.use.f1,Z ab v.drift.f0,Z ab v.drift.f1,Z ab v.reserve] 29:=(aa mV _)
 replace mK:aZ (W1.alloc (.cells #[.pointer (some ⟨g,0,none⟩)] 104)) gK #[Z ab p.f0.f0.f0,Z ab p.f0.f0.f1,Z ab p.f0.f1.f0,Z ab p.f0.f1.f1,Z ab p.f1,Z ab p.f2] 81:=(aa mK _)
 replace mG:aZ (W1.alloc (.cells #[.pointer (some ⟨g,0,none⟩)] 104)) gG #[.func (.func 107) #[] #[.pointer (some ⟨gL,0,none⟩),.pointer (some ⟨gB,0,none⟩),.pointer (some ⟨gX,0,none⟩),.pointer (some ⟨gV,0,none⟩),.pointer (some ⟨gK,0,none⟩),.pointer (some ⟨gG,0,none⟩)]] 141:=(aa mG _)
 replace mL:aZ (W1.alloc (.cells #[.pointer (some ⟨g,0,none⟩)] 104)) gL #[Z ab st.2] 2:=(aa mL _)
 replace mBe:aZ (W1.alloc (.cells #[.pointer (some ⟨g,0,none⟩)] 104)) gB #[bv] 49:=(aa mBe _)
 replace m13:aZ (W1.alloc (.cells #[.pointer (some ⟨g,0,none⟩)] 104)) g13 #[Z ab x.f0.f0,Z ab x.f0.f1,Z ab x.f1.f0,Z ab x.f1.f1] 31:=(aa m13 _)
 replace m14:aZ (W1.alloc (.cells #[.pointer (some ⟨g,0,none⟩)] 104)) g14 #[Z ab t] 2:=(aa m14 _)
 replace m15:aZ (W1.alloc (.cells #[.pointer (some ⟨g,0,none⟩)] 104)) g15 #[Z ab left] 2:=(aa m15 _)
 replace m16:aZ (W1.alloc (.cells #[.pointer (some ⟨g,0,none⟩)] 104)) g16 #[Z ab cost] 2:=(aa m16 _)
 replace m17:aZ (W1.alloc (.cells #[.pointer (some ⟨g,0,none⟩)] 104)) g17 #[(Value.slice Ap plan.length cp)] 49:=(aa m17 _)
 replace m18:aZ (W1.alloc (.cells #[.pointer (some ⟨g,0,none⟩)] 104)) g18 #[.bool there] 4:=(aa m18 _)
 replace m19:aZ (W1.alloc (.cells #[.pointer (some ⟨g,0,none⟩)] 104)) g19 #[Z ab m] 3:=(aa m19 _)
 replace mB:Below w.heap.size w (W1.alloc (.cells #[.pointer (some ⟨g,0,none⟩)] 104)):=(ai mB _)
 have dU:w.heap.size≤W1.heap.size:=lC
 generalize jq:(W1.alloc (.cells #[.pointer (some ⟨g,0,none⟩)] 104)) = W0 at mT mX mV mK mG mL mBe m13 m14 m15 m16 m17 m18 m19 mQ mB HP HC hKp hVW ⊢
 clear jq
 generalize hgQ:W1.heap.size = gQ at mQ ⊢
 have aiv:g≠gQ:=by omega
 have aiw:gX≠gQ:=by omega
 have aix:gV≠gQ:=by omega
 have aiy:gK≠gQ:=by omega
 have aiz:gG≠gQ:=by omega
 have aiA:gL≠gQ:=by omega
 have aea:gB≠gQ:=by omega
 have aeb:g13≠gQ:=by omega
 have aec:g14≠gQ:=by omega
 have aed:g15≠gQ:=by omega
 have aee:g16≠gQ:=by omega
 have aef:g17≠gQ:=by omega
 have aeg:g18≠gQ:=by omega
 have aeh:g19≠gQ:=by omega
 have apU:gQ≠g:=aiv.symm
 have apV:gQ≠gX:=aiw.symm
 have apW:gQ≠gV:=aix.symm
 have apX:gQ≠gK:=aiy.symm
 have apY:gQ≠gG:=aiz.symm
 have aiB:gQ≠gL:=aiA.symm
 have aei:gQ≠gB:=aea.symm
 have alL:gQ≠g13:=aeb.symm
 have alM:gQ≠g14:=aec.symm
 have alN:gQ≠g15:=aed.symm
 have alO:gQ≠g16:=aee.symm
 have alP:gQ≠g17:=aef.symm
 have alQ:gQ≠g18:=aeg.symm
 have alR:gQ≠g19:=aeh.symm
 have hGQ:w.heap.size≤gQ:=by omega
 clear dU mF abW abX abY abZ Vo G6 Qf yu Ze GA GH Zf Zg
 try clear hgQ
 have pI:w.heap.size≤W0.heap.size:=mB.size
 have hltQ:=aD mQ
 have hQL:gQ≠gL:=aiB
 have hQB:gQ≠gB:=aei
 try clear JQ
 try clear ab0
 try clear ab1
 try clear ab2
 try clear ab3
 try clear Vq
 try clear Hd lv Hr qw qK Ii xJ
 try clear aiv
 try clear PM
 try clear ab4
 try clear ab5
 try clear ab6
 try clear ab7
 try clear Vr
 try clear He zJ Ht Hz Ic Ij Io
 try clear aiw
 try clear ab8
 try clear ab9
 try clear aca
 try clear acb
 try clear acd
 try clear Vs
 try clear Hf Hm Hu H9 Ie Ik Ip
 try clear aix
 try clear ace
 try clear acf
 try clear acg
 try clear ach
 try clear aci
 try clear Vt
 try clear Hg Ho Hw Ia Ig Il Iq
 try clear aiy
 try clear acj
 try clear ack
 try clear acm
 try clear acn
 try clear aco
 try clear Vu
 try clear Hl Hq Hy Ib Ih Im Ir
 try clear aiz
 try clear acp
 try clear acr
 try clear acs
 try clear acu
 try clear acv
 try clear Vv
 try clear xB xC xD xE xG xH xI
 try clear aiA
 try clear Vw
 try clear Vx
 try clear Vy
 try clear Vz
 try clear VA
 try clear VB
 try clear sN sO sQ sV tq tH tQ
 try clear aea
 try clear MF
 try clear MG
 try clear MH
 try clear MI
 try clear MJ
 try clear G7
 try clear CR
 try clear sP sS sW tu tJ tT
 try clear aeb
 try clear vP
 try clear zI
 try clear MK
 try clear ML
 try clear MM
 try clear Eo
 try clear CS
 try clear yT sU gN oG tK tV
 try clear aec
 try clear MN
 try clear MO
 try clear MP
 try clear MQ
 try clear MR
 try clear Ep
 try clear CU
 try clear yU yV sZ tC tL tX
 try clear aed
 try clear vQ
 try clear MS
 try clear MU
 try clear MV
 try clear MW
 try clear Er
 try clear vE
 try clear yX jV yY oH tN tY
 try clear aee
 try clear wS
 try clear MX
 try clear MZ
 try clear M0
 try clear M3
 try clear G8
 try clear tF
 try clear yZ ng za sI tO oI
 try clear aef
 try clear M4
 try clear M5
 try clear M6
 try clear M7
 try clear M8
 try clear G9
 try clear CV
 try clear zb ze zf zg zh tZ
 try clear aeg
 try clear Et
 try clear M9
 try clear Na
 try clear Nb
 try clear Nc
 try clear Ha
 try clear CW
 try clear zi zk zl zm uf zn
 try clear aeh
 try clear apU
 try clear apV
 try clear apW
 try clear apX
 try clear apY
 try clear aiB
 try clear aei
 try clear alL alM alN alO alP alQ alR
 clear hGQ
 skip
 have alS:V.heap.size≤W0.heap.size:=hVW
 have aCP:w.heap.size≤W0.heap.size:=mB.size
 refine wpIn_rangeFunc_ownH rfl (by omega) (gf:=129) (lb:=#[.pointer (some ⟨gQ,0,none⟩)]) rfl trivial (enters_of Try.func129 aT rfl)
  (encs:=fun c:RP s=>#[.agg #[Z ab c.1.f0,Z ab c.1.f1]]) (Kp:=La w g gQ #[Z ab s.nx,Z ab s.ny,Z ab s.cell,Z ab s.slot,Z ab s.slots,Z ab s.layers,Z ab s.most,.slice B7 s.shores.length d7,.slice B8 s.currents.length d8,Z ab v.speed,Z ab v.dive,Z ab v.use.f0,Z ab v.use.f1,Z ab v.drift.f0,Z ab v.drift.f1,Z ab v.reserve]) (S:=ahm s) (Sp:=akV s) (N:=(oP s).length) (w0:=W0)
  (fun l J Jx X_ hW hJ _ hY h0=>Cx 6 (by omega) l gQ g s v (fun W=>Below w.heap.size w W∧aZ W g #[Z ab s.nx,Z ab s.ny,Z ab s.cell,Z ab s.slot,Z ab s.slots,Z ab s.layers,Z ab s.most,.slice B7 s.shores.length d7,.slice B8 s.currents.length d8,Z ab v.speed,Z ab v.dive,Z ab v.use.f0,Z ab v.use.f1,Z ab v.drift.f0,Z ab v.drift.f1,Z ab v.reserve] 110∧aZ W gQ #[.pointer (some ⟨g,0,none⟩)] 104) (fun W h=>⟨HTA.out W h.1 h.2.1,h.2.2⟩) hS.n (La w g gQ #[Z ab s.nx,Z ab s.ny,Z ab s.cell,Z ab s.slot,Z ab s.slots,Z ab s.layers,Z ab s.most,.slice B7 s.shores.length d7,.slice B8 s.currents.length d8,Z ab v.speed,Z ab v.dive,Z ab v.use.f0,Z ab v.use.f1,Z ab v.drift.f0,Z ab v.drift.f1,Z ab v.reserve]) (fun A B h hE=>⟨hE.1.trans h.1,h.2.1 hE.2.1,h.2.2 hE.2.2⟩) J Jx hY X_ ⟨aJ mB hW,aZ.qm mT hW,aZ.qm mQ hW⟩ h0) La.trans (La.put aCP (aD mT) hltQ) (Below.refl _ _) (fun _=>rfl)
  (fun pre W=>agf w s v p g gX gV gK gG gL gB B7 B8 d7 d8 W∧aZ W g13 #[Z ab x.f0.f0,Z ab x.f0.f1,Z ab x.f1.f0,Z ab x.f1.f1] 31∧aZ W g14 #[Z ab t] 2∧aZ W g15 #[Z ab left] 2∧aZ W g16 #[Z ab cost] 2∧aZ W g17 #[(Value.slice Ap plan.length cp)] 49∧aZ W g18 #[.bool there] 4∧aZ W g19 #[Z ab m] 3∧jL w gL gB ((pre.map Subtype.val).foldl (stepG s v p n x t left cost plan there) st) plan (Value.slice Ap plan.length cp) bv V W)
  (fun c pre W=>c = .ret∧jL w gL gB RR plan (Value.slice Ap plan.length cp) bv V W)
  (fun pre X Y row hs hg hr=>by obtain ⟨⟨mB,mT,mX,mV,mK,mG⟩,m13,m14,m15,m16,m17,m18,m19,hq⟩:=hs;exact ⟨⟨ownFrom_below (by omega) (by omega) () X Y row mB hg hr,eO mT hg hr,eO mX hg hr,eO mV hg hr,eO mK hg hr,eO mG hg hr⟩,eO m13 hg hr,eO m14 hg hr,eO m15 hg hr,eO m16 hg hr,eO m17 hg hr,eO m18 hg hr,eO m19 hg hr,jL.Qy hsV alS hq hg hr⟩)
  (fun c pre X Y row hs hg hr=>⟨hs.1,jL.Qy hsV alS hs.2 hg hr⟩)
  ⟨⟨mB,mT,mX,mV,mK,mG⟩,m13,m14,m15,m16,m17,m18,m19,hKp,HP,bv,⟨mL,mBe,HC⟩,fun k hk=>.inl hk⟩
  (fun c a' W=>∃ (g20:Nat) (u_:Nat→Value),a' = { tmps:=#[(u_ 0),(u_ 1),(u_ 2),(u_ 3),(u_ 4),(u_ 5),(u_ 6),.pointer (some ⟨gL,0,none⟩),.pointer (some ⟨gB,0,none⟩),.pointer (some ⟨gX,0,none⟩),.pointer (some ⟨gV,0,none⟩),.pointer (some ⟨gK,0,none⟩),.pointer (some ⟨gG,0,none⟩),.pointer (some ⟨g13,0,none⟩),.pointer (some ⟨g14,0,none⟩),.pointer (some ⟨g15,0,none⟩),.pointer (some ⟨g16,0,none⟩),.pointer (some ⟨g17,0,none⟩),.pointer (some ⟨g18,0,none⟩),.pointer (some ⟨g19,0,none⟩),.pointer (some ⟨g20,0,none⟩),(u_ 21),(u_ 22),(u_ 23),(u_ 24),(u_ 25),(u_ 26),(u_ 27),(u_ 28),(u_ 29),(u_ 30),(u_ 31),(u_ 32),(u_ 33),(u_ 34),(u_ 35),(u_ 36),(u_ 37),(u_ 38),(u_ 39),(u_ 40),(u_ 41),(u_ 42),(u_ 43),(u_ 44),(u_ 45),(u_ 46),(u_ 47),(u_ 48),(u_ 49),(u_ 50),(u_ 51),(u_ 52),(u_ 53),(u_ 54),(u_ 55),(u_ 56),(u_ 57),(u_ 58),(u_ 59),(u_ 60),(u_ 61),(u_ 62),(u_ 63),(u_ 64),(u_ 65),(u_ 66),(u_ 67),(u_ 68),(u_ 69),(u_ 70),(u_ 71),(u_ 72),(u_ 73),(u_ 74),(u_ 75),(u_ 76),(u_ 77),(u_ 78),(u_ 79),(u_ 80),(u_ 81),(u_ 82),(u_ 83),(u_ 84),(u_ 85),(u_ 86),(u_ 87),(u_ 88),(u_ 89),(u_ 90),(u_ 91),(u_ 92),(u_ 93),(u_ 94),(u_ 95),(u_ 96),(u_ 97),(u_ 98),(u_ 99),(u_ 100),(u_ 101),(u_ 102),(u_ 103),(u_ 104),(u_ 105),(u_ 106),(u_ 107),(u_ 108),(u_ 109),(u_ 110),(u_ 111)],defers:=[] }∧some g20≠((Value.slice Ap plan.length cp)).ownBlock∧aZ W g20 #[Z ab c.1.f0,Z ab c.1.f1] 33)
  (fun c a' s X Y row hs hg hr=>by obtain ⟨g20,u_,h1,h0,h2⟩:=hs;exact ⟨g20,u_,h1,h0,eO h2 hg hr⟩) ?assign ?body ?done ?stop
 case assign =>
  rintro l_ pre q X_ K ⟨⟨mB,mT,mX,mV,mK,mG⟩,m13,m14,m15,m16,m17,m18,m19,hq⟩ hK
  gi_wp2
  skip
  have hb:=ai (Below.refl X_.heap.size X_) (.cells #[Z ab q.1.f0,Z ab q.1.f1] 33)
  exact hK _ _ (eD hb) (La.below mB.size hb) ⟨⟨aJ mB hb,af mT hb,af mX hb,af mV hb,af mK hb,af mG hb⟩,af m13 hb,af m14 hb,af m15 hb,af m16 hb,af m17 hb,af m18 hb,af m19 hb,hq.below mB.size hb⟩ ⟨X_.heap.size,(fun k_=>(#[.agg #[Z ab x.f0.f0,Z ab x.f0.f1,Z ab x.f1.f0,Z ab x.f1.f1],Z ab t,Z ab left,Z ab cost,(Value.slice Ap plan.length cp),.bool there,Z ab m,.pointer (some ⟨gL,0,none⟩),.pointer (some ⟨gB,0,none⟩),.pointer (some ⟨gX,0,none⟩),.pointer (some ⟨gV,0,none⟩),.pointer (some ⟨gK,0,none⟩),.pointer (some ⟨gG,0,none⟩),.pointer (some ⟨g13,0,none⟩),.pointer (some ⟨g14,0,none⟩),.pointer (some ⟨g15,0,none⟩),.pointer (some ⟨g16,0,none⟩),.pointer (some ⟨g17,0,none⟩),.pointer (some ⟨g18,0,none⟩),.pointer (some ⟨g19,0,none⟩),.pointer (some ⟨X_.heap.size,0,none⟩),undef,undef,undef,undef,undef,Z ab m,.bool false,undef,undef,undef,undef,undef,undef,undef,undef,undef,undef,undef,undef,undef,.pointer (some ⟨g,0,none⟩),.func (.func 129) #[] #[.pointer (some ⟨gQ,0,none⟩)],.agg #[Z ab q.1.f0,Z ab q.1.f1],undef,undef,undef,undef,undef,undef,undef,undef,undef,undef,undef,undef,undef,undef,undef,undef,undef,undef,undef,undef,undef,undef,undef,undef,undef,undef,undef,undef,undef,undef,undef,undef,undef,undef,undef,undef,undef,undef,undef,undef,undef,undef,undef,undef,undef,undef,undef,undef,undef,undef,undef,undef,undef,undef,undef,undef,undef,undef,undef,undef,undef,undef,undef,undef,undef,undef,undef,undef]:Array Value).getD k_ undef),rfl,(fun h=>by have h_:=(hq.2.1.lt _ h.symm).2;omega),bB _ _⟩
 case stop =>
  rintro D_ c pre X_ hD hp ⟨rfl,hq⟩ hK
  gi_wp2
  skip
  exact iV (F:=Fence.wide) (n:=7) (B:=V.heap.size) (fun W_=>jL w gL gB RR plan (Value.slice Ap plan.length cp) bv V W_) (fun W_ D_ h hB hD=>jL.putObj hsV h hB hD) (fun W_ h=>⟨_,results_none rfl _ _ _,⟨_,rfl⟩,h⟩) [D_] _ (Marks.cons (Marks.nil _ _) (by simp) (Nat.le_trans alS hD) hK) hq
 case done =>
  rintro D_ xs X_ hD hxs ⟨_,_,_,_,_,_,_,_,hq⟩ hK
  have hHx:((xs.map Subtype.val).foldl (stepG s v p n x t left cost plan there) st) = RR:=by rw [show xs.map Subtype.val = oP s from hxs];exact HS.out.symm
  rw [hHx] at hq
  gi_wp2
  skip
  exact iV (F:=Fence.wide) (n:=7) (B:=V.heap.size) (fun W_=>jL w gL gB RR plan (Value.slice Ap plan.length cp) bv V W_) (fun W_ D_ h hB hD=>jL.putObj hsV h hB hD) (fun W_ h=>⟨_,results_none rfl _ _ _,⟨_,rfl⟩,h⟩) [D_] _ (Marks.cons (Marks.nil _ _) (by simp) (Nat.le_trans alS hD) hK) hq
 case body =>
  rintro l_ pre q a_ X_ hlW ⟨r,hr⟩ ⟨⟨mB,mT,mX,mV,mK,mG⟩,m13,m14,m15,m16,m17,m18,m19,hq⟩ ⟨g20,u_,rfl,h20,m20⟩ hlen
  clear hr hlen
  have hXs:w.heap.size≤X_.heap.size:=mB.size
  have hN:Below X_.heap.size X_ X_:=Below.refl _ _
  have HQV:=Lib.hid hq
  obtain ⟨hKp,HP,Qz,⟨mL,mBe,HC⟩,hbv⟩:=hq
  have hVX:V.heap.size≤X_.heap.size:=hKp.1.size
  have hmap:(((pre++[q]).map Subtype.val).foldl (stepG s v p n x t left cost plan there) st) = stepG s v p n x t left cost plan there ((pre.map Subtype.val).foldl (stepG s v p n x t left cost plan there) st) q.1:=by rw [List.map_append,List.map_singleton,List.foldl_append];rfl
  have hret:jv s v x t≠0→((pre.map Subtype.val).foldl (stepG s v p n x t left cost plan there) st) = st:=fun hd=>vC _ _ (fun st c _=>by unfold stepG;rw [if_pos hd];exact KP _ _ _ _ _)
  generalize ((pre.map Subtype.val).foldl (stepG s v p n x t left cost plan there) st) = P0 at*
  obtain ⟨PN,hPN⟩:∃ PN,(((pre++[q]).map Subtype.val).foldl (stepG s v p n x t left cost plan there) st) = PN:=⟨_,rfl⟩
  rw [hPN] at hmap
  have HPN:=Lib.hid hPN
  clear hPN
  have HM:Hid (PN = if left - (gq v q.1).f1 < v.reserve then P0 else if 0≤P0.2∧P0.2≤cost+(gq v q.1).f1 then P0 else if jv s v x t≠0 then P0 else sK s v p n (iX s v x t q.1.f0 q.1.f1) (t+v.dive) (left - (gq v q.1).f1) (cost+(gq v q.1).f1) (plan++[q.1]) (there || yS p (t+v.dive) (iX s v x t q.1.f0 q.1.f1)) P0):=Lib.hid hmap
  clear hmap
  have HRT:=Lib.hid hret
  clear hret
  have hus:=GY hv q.1
  have hrs:=Y9 hv
  have kT:=fun W=>SF v q.1 W
  have kD:=fun W (h:dZ W g s v)=>PX g s v x t q.1.f0 q.1.f1 W h hS hV hx ht.1 (by omega) q.2.1.1 q.2.1.2 q.2.2.1 q.2.2.2
  have kBx:=fun hd=>PV (hd:=q.1.f0) (layer:=q.1.f1) hS hV hx (t:=t) hd
  generalize iX s v x t q.1.f0 q.1.f1 = Y at*
  generalize gq v q.1 = U at*
  obtain ⟨⟨c0,c1⟩,c2⟩:=q
  dsimp only at m20 kT kD kBx HM HPN ⊢
  have KBX:=Lib.hid kBx
  clear kBx
  obtain ⟨Zh,Zi,Zj,Zk,Zl,Zm,Zn⟩:=vg mV
  obtain ⟨SK,Zo⟩:=F8 m20
  gi_wp2_with fail
  clear Zh Zi Zj Zk Zl Zm Zn SK Zo
  skip
  have hcon:=kT X_
  refine ⟨trivial,(callsIn_wide.2 hcon).mono ?_⟩
  clear hcon
  rintro e Wa ⟨rfl,hb⟩
  replace HP:=bN.below HP hb
  replace HC:=bN.below HC hb
  replace hKp:=qf.step hKp hXs hb
  replace hN:=aJ hN hb
  replace mT:=af mT hb
  replace mX:=af mX hb
  replace mV:=af mV hb
  replace mK:=af mK hb
  replace mG:=af mG hb
  replace mL:=af mL hb
  replace mBe:=af mBe hb
  replace m13:=af m13 hb
  replace m14:=af m14 hb
  replace m15:=af m15 hb
  replace m16:=af m16 hb
  replace m17:=af m17 hb
  replace m18:=af m18 hb
  replace m19:=af m19 hb
  replace m20:=af m20 hb
  replace mB:=aJ mB hb
  clear hb
  have ahK:w.heap.size≤Wa.heap.size:=mB.size
  clear kT
  skip
  have hbd:Hid (-1073741824≤left - U.f1∧left - U.f1≤1073741824∧0≤cost+U.f1∧cost+U.f1≤((plan.length:Int)+1)*1073741824):=Lib.hid (by omega)
  have hpn:(plan.length:Int)≤2:=by omega
  have hw0:wrap64 (left - U.f1) = left - U.f1:=by unfold wrap64;omega
  have hw1:wrap64 (cost+U.f1) = cost+U.f1:=by unfold wrap64;omega
  have hw2:wrap64 (t+v.dive) = t+v.dive:=by have h_:=hV.dive;unfold wrap64;omega
  have HW:Hid (wrap64 (left - U.f1) = left - U.f1∧wrap64 (cost+U.f1) = cost+U.f1∧wrap64 (t+v.dive) = t+v.dive∧(plan.length:Int)≤2∧1≤v.dive∧v.dive≤131072):=Lib.hid ⟨hw0,hw1,hw2,hpn,hV.dive.1,hV.dive.2⟩
  have HB0:=Lib.hid (And.intro ht (And.intro hl hc))
  have HUS:=Lib.hid (And.intro hus hrs)
  clear hus hrs hpn hw2 ht hl hc
  have Zp:Hid (∀ k,Qz.ownBlock = some k→some k≠((Value.slice Ap plan.length cp)).ownBlock):=Lib.hid (fun k hk he=>by
   rcases hbv k hk with h_|h_
   ·exact HBN.out k h_ he
   ·exact absurd (hPlt k he.symm) (Nat.not_lt.2 h_))
  have aoe:=(ae m15 0).trans rfl
  obtain ⟨Zh,Zi,Zj,Zk,Zl,Zm,Zn⟩:=vg mV
  have aih:=(ae mL 0).trans rfl
  have F4:=(ae m16 0).trans rfl
  by_cases q1:left - U.f1 < v.reserve
  case pos =>
   have hq1:decide (left - U.f1 < v.reserve) = true:=decide_eq_true q1
   skip
   have HM1:=Lib.hid (HM.out.trans (if_pos q1))
   clear HM q1
   gi_wp2
   skip
   refine ⟨eD hN,La.below hXs hN,?_⟩
   dsimp only
   rw [HPN.out,HM1.out]
   exact ⟨⟨mB,mT,mX,mV,mK,mG⟩,m13,m14,m15,m16,m17,m18,m19,hKp,HP,Qz,⟨mL,mBe,HC⟩,hbv⟩
  case neg =>
   have hq1:decide (left - U.f1 < v.reserve) = false:=decide_eq_false q1
   have HQ1:=Lib.hid q1
   have HM1:=Lib.hid (HM.out.trans (if_neg q1))
   clear HM q1
   by_cases q2:0≤P0.2
   case neg =>
    have hq2:decide (0≤P0.2) = false:=decide_eq_false q2
    have HM:=Lib.hid (HM1.out.trans (if_neg (fun h=>q2 h.1)))
    clear HM1 q2
    have aiu:=(ae mX 0).trans rfl
    obtain ⟨Gj,Gm,Gn,Gp⟩:=mH m13
    have QA:=(ae m14 0).trans rfl
    obtain ⟨SK,Zo⟩:=F8 m20
    gi_wp2_with fail
    skip
    try clear aoe Zh Zi Zj Zk Zl Zm Zn aih F4 aiu Gj Gm Gn Gp QA SK Zo
    clear hw0 hw1
    have hcon:=kD Wa (HTA.out _ mB mT)
    refine ⟨trivial,(callsIn_wide.2 hcon).mono ?_⟩
    clear hcon
    rintro e Wb ⟨rfl,hb⟩
    replace HP:=bN.below HP hb
    replace HC:=bN.below HC hb
    replace hKp:=qf.step hKp ahK hb
    replace hN:=aJ hN hb
    replace mT:=af mT hb
    replace mX:=af mX hb
    replace mV:=af mV hb
    replace mK:=af mK hb
    replace mG:=af mG hb
    replace mL:=af mL hb
    replace mBe:=af mBe hb
    replace m13:=af m13 hb
    replace m14:=af m14 hb
    replace m15:=af m15 hb
    replace m16:=af m16 hb
    replace m17:=af m17 hb
    replace m18:=af m18 hb
    replace m19:=af m19 hb
    replace m20:=af m20 hb
    replace mB:=aJ mB hb
    clear hb
    have Gz:w.heap.size≤Wb.heap.size:=mB.size
    clear kD
    have HM2:=Lib.hid (HM.out.trans rfl)
    clear HM
    by_cases hd:jv s v x t = 0
    case neg =>
     have hd1:(jv s v x t == 0) = false:=beq_eq_false_iff_ne.2 hd
     have hd2:(jv s v x t != 0) = true:=by rw [bne,hd1];rfl
     have hst:=HRT.out hd
     have hrr:=HD0.out hd
     have hQ_:jL w gL gB RR plan (Value.slice Ap plan.length cp) bv V Wb:=by rw [hrr,← hst];exact ⟨hKp,HP,Qz,⟨mL,mBe,HC⟩,hbv⟩
     clear hst hrr hd
     gi_wp2
     skip
     have Zq:=ai (Below.refl Wb.heap.size Wb) (.cells #[Z ab Y.f0.f0,Z ab Y.f0.f1,Z ab Y.f1.f0,Z ab Y.f1.f1] 31)
     exact ⟨eD (aJ hN Zq),rfl,hQ_.below Gz Zq⟩
    case pos =>
     have HM3:=Lib.hid (HM2.out.trans (if_neg (fun h=>h hd)))
     clear HM2
     have hYB:=KBX.out hd
     have HYB:=Lib.hid hYB
     clear hYB
     rw [hd]
     clear hd
     have QA:∀ o_,(Wb.alloc o_).cell? ⟨g14,0,none⟩ = some (Z ab t):=fun o_=>(ae (aa m14 o_) 0).trans rfl
     have Zh:∀ o_,(Wb.alloc o_).cell? ⟨gV,0,none⟩ = some (Z ab v.speed):=fun o_=>(ae (aa mV o_) 0).trans rfl
     have Zi:∀ o_,(Wb.alloc o_).cell? ⟨gV,1,none⟩ = some (Z ab v.dive):=fun o_=>(ae (aa mV o_) 1).trans rfl
     have Zj:∀ o_,(Wb.alloc o_).cell? ⟨gV,2,none⟩ = some (Z ab v.use.f0):=fun o_=>(ae (aa mV o_) 2).trans rfl
     have Zk:∀ o_,(Wb.alloc o_).cell? ⟨gV,3,none⟩ = some (Z ab v.use.f1):=fun o_=>(ae (aa mV o_) 3).trans rfl
     have Zl:∀ o_,(Wb.alloc o_).cell? ⟨gV,4,none⟩ = some (Z ab v.drift.f0):=fun o_=>(ae (aa mV o_) 4).trans rfl
     have Zm:∀ o_,(Wb.alloc o_).cell? ⟨gV,5,none⟩ = some (Z ab v.drift.f1):=fun o_=>(ae (aa mV o_) 5).trans rfl
     have Zn:∀ o_,(Wb.alloc o_).cell? ⟨gV,6,none⟩ = some (Z ab v.reserve):=fun o_=>(ae (aa mV o_) 6).trans rfl
     have acw:∀ o_,(Wb.alloc o_).cell? ⟨gK,0,none⟩ = some (Z ab p.f0.f0.f0):=fun o_=>(ae (aa mK o_) 0).trans rfl
     have acx:∀ o_,(Wb.alloc o_).cell? ⟨gK,1,none⟩ = some (Z ab p.f0.f0.f1):=fun o_=>(ae (aa mK o_) 1).trans rfl
     have acy:∀ o_,(Wb.alloc o_).cell? ⟨gK,2,none⟩ = some (Z ab p.f0.f1.f0):=fun o_=>(ae (aa mK o_) 2).trans rfl
     have acz:∀ o_,(Wb.alloc o_).cell? ⟨gK,3,none⟩ = some (Z ab p.f0.f1.f1):=fun o_=>(ae (aa mK o_) 3).trans rfl
     have acA:∀ o_,(Wb.alloc o_).cell? ⟨gK,4,none⟩ = some (Z ab p.f1):=fun o_=>(ae (aa mK o_) 4).trans rfl
     have acB:∀ o_,(Wb.alloc o_).cell? ⟨gK,5,none⟩ = some (Z ab p.f2):=fun o_=>(ae (aa mK o_) 5).trans rfl
     obtain ⟨_,_,aiC,apZ,aiD,aiE⟩:=HW.out
     obtain ⟨ap0,ap1⟩:=HB0.out.1
     gi_wp2_with fail
     clear QA Zh Zi Zj Zk Zl Zm Zn acw acx acy acz acA acB
     try rw [aiC]
     clear aiD aiE ap0 ap1 apZ aiC
     skip
     have Zq:=ai (Below.refl Wb.heap.size Wb) (.cells #[Z ab Y.f0.f0,Z ab Y.f0.f1,Z ab Y.f1.f0,Z ab Y.f1.f1] 31)
     replace HP:=bN.below HP Zq
     replace HC:=bN.below HC Zq
     replace hKp:=qf.step hKp Gz Zq
     replace hN:=aJ hN Zq
     clear Zq
     have mF:=aD mT
     have abW:=aD mX
     have abX:=aD mV
     have abY:=aD mK
     have abZ:=aD mG
     have Vo:=aD mL
     have G6:=aD mBe
     have Qf:=aD m13
     have yu:=aD m14
     have Ze:=aD m15
     have GA:=aD m16
     have GH:=aD m17
     have Zf:=aD m18
     have Zg:=aD m19
     have aiF:=aD m20
     have m22:aZ (Wb.alloc (.cells #[Z ab Y.f0.f0,Z ab Y.f0.f1,Z ab Y.f1.f0,Z ab Y.f1.f1] 31)) (Wb.heap.size) #[Z ab Y.f0.f0,Z ab Y.f0.f1,Z ab Y.f1.f0,Z ab Y.f1.f1] 31:=asS
     replace mT:aZ (Wb.alloc (.cells #[Z ab Y.f0.f0,Z ab Y.f0.f1,Z ab Y.f1.f0,Z ab Y.f1.f1] 31)) g #[Z ab s.nx,Z ab s.ny,Z ab s.cell,Z ab s.slot,Z ab s.slots,Z ab s.layers,Z ab s.most,.slice B7 s.shores.length d7,.slice B8 s.currents.length d8,Z ab v.speed,Z ab v.dive,Z ab v.use.f0,Z ab v.use.f1,Z ab v.drift.f0,Z ab v.drift.f1,Z ab v.reserve] 110:=(aa mT _)
     replace mX:aZ (Wb.alloc (.cells #[Z ab Y.f0.f0,Z ab Y.f0.f1,Z ab Y.f1.f0,Z ab Y.f1.f1] 31)) gX #[.pointer (some ⟨g,0,none⟩)] 104:=(aa mX _)
     replace mV:aZ (Wb.alloc (.cells #[Z ab Y.f0.f0,Z ab Y.f0.f1,Z ab Y.f1.f0,Z ab Y.f1.f1] 31)) gV #[Z ab v.speed,Z ab v.dive,Z ab v.use.f0,Z ab v.use.f1,Z ab v.drift.f0,Z ab v.drift.f1,Z ab v.reserve] 29:=(aa mV _)
     replace mK:aZ (Wb.alloc (.cells #[Z ab Y.f0.f0,Z ab Y.f0.f1,Z ab Y.f1.f0,Z ab Y.f1.f1] 31)) gK #[Z ab p.f0.f0.f0,Z ab p.f0.f0.f1,Z ab p.f0.f1.f0,Z ab p.f0.f1.f1,Z ab p.f1,Z ab p.f2] 81:=(aa mK _)
     replace mG:aZ (Wb.alloc (.cells #[Z ab Y.f0.f0,Z ab Y.f0.f1,Z ab Y.f1.f0,Z ab Y.f1.f1] 31)) gG #[.func (.func 107) #[] #[.pointer (some ⟨gL,0,none⟩),.pointer (some ⟨gB,0,none⟩),.pointer (some ⟨gX,0,none⟩),.pointer (some ⟨gV,0,none⟩),.pointer (some ⟨gK,0,none⟩),.pointer (some ⟨gG,0,none⟩)]] 141:=(aa mG _)
     replace mL:aZ (Wb.alloc (.cells #[Z ab Y.f0.f0,Z ab Y.f0.f1,Z ab Y.f1.f0,Z ab Y.f1.f1] 31)) gL #[Z ab P0.2] 2:=(aa mL _)
     replace mBe:aZ (Wb.alloc (.cells #[Z ab Y.f0.f0,Z ab Y.f0.f1,Z ab Y.f1.f0,Z ab Y.f1.f1] 31)) gB #[Qz] 49:=(aa mBe _)
     replace m13:aZ (Wb.alloc (.cells #[Z ab Y.f0.f0,Z ab Y.f0.f1,Z ab Y.f1.f0,Z ab Y.f1.f1] 31)) g13 #[Z ab x.f0.f0,Z ab x.f0.f1,Z ab x.f1.f0,Z ab x.f1.f1] 31:=(aa m13 _)
     replace m14:aZ (Wb.alloc (.cells #[Z ab Y.f0.f0,Z ab Y.f0.f1,Z ab Y.f1.f0,Z ab Y.f1.f1] 31)) g14 #[Z ab t] 2:=(aa m14 _)
     replace m15:aZ (Wb.alloc (.cells #[Z ab Y.f0.f0,Z ab Y.f0.f1,Z ab Y.f1.f0,Z ab Y.f1.f1] 31)) g15 #[Z ab left] 2:=(aa m15 _)
     replace m16:aZ (Wb.alloc (.cells #[Z ab Y.f0.f0,Z ab Y.f0.f1,Z ab Y.f1.f0,Z ab Y.f1.f1] 31)) g16 #[Z ab cost] 2:=(aa m16 _)
     replace m17:aZ (Wb.alloc (.cells #[Z ab Y.f0.f0,Z ab Y.f0.f1,Z ab Y.f1.f0,Z ab Y.f1.f1] 31)) g17 #[(Value.slice Ap plan.length cp)] 49:=(aa m17 _)
     replace m18:aZ (Wb.alloc (.cells #[Z ab Y.f0.f0,Z ab Y.f0.f1,Z ab Y.f1.f0,Z ab Y.f1.f1] 31)) g18 #[.bool there] 4:=(aa m18 _)
     replace m19:aZ (Wb.alloc (.cells #[Z ab Y.f0.f0,Z ab Y.f0.f1,Z ab Y.f1.f0,Z ab Y.f1.f1] 31)) g19 #[Z ab m] 3:=(aa m19 _)
     replace m20:aZ (Wb.alloc (.cells #[Z ab Y.f0.f0,Z ab Y.f0.f1,Z ab Y.f1.f0,Z ab Y.f1.f1] 31)) g20 #[Z ab c0,Z ab c1] 33:=(aa m20 _)
     replace mB:Below w.heap.size w (Wb.alloc (.cells #[Z ab Y.f0.f0,Z ab Y.f0.f1,Z ab Y.f1.f0,Z ab Y.f1.f1] 31)):=(ai mB _)
     have dU:w.heap.size≤Wb.heap.size:=Gz
     generalize jq:(Wb.alloc (.cells #[Z ab Y.f0.f0,Z ab Y.f0.f1,Z ab Y.f1.f0,Z ab Y.f1.f1] 31)) = Wc at mT mX mV mK mG mL mBe m13 m14 m15 m16 m17 m18 m19 m20 m22 mB HP HC hKp hN ⊢
     clear jq
     generalize ap2:Wb.heap.size = g22 at m22 ⊢
     have Iu:g≠g22:=by omega
     have Iw:gX≠g22:=by omega
     have Iy:gV≠g22:=by omega
     have Iz:gK≠g22:=by omega
     have IA:gG≠g22:=by omega
     have IB:gL≠g22:=by omega
     have CX:gB≠g22:=by omega
     have CY:g13≠g22:=by omega
     have CZ:g14≠g22:=by omega
     have C8:g15≠g22:=by omega
     have C9:g16≠g22:=by omega
     have Da:g17≠g22:=by omega
     have Db:g18≠g22:=by omega
     have Dc:g19≠g22:=by omega
     have De:g20≠g22:=by omega
     have VC:g22≠g:=Iu.symm
     have VD:g22≠gX:=Iw.symm
     have VE:g22≠gV:=Iy.symm
     have VF:g22≠gK:=Iz.symm
     have VG:g22≠gG:=IA.symm
     have VH:g22≠gL:=IB.symm
     have QB:g22≠gB:=CX.symm
     have QC:g22≠g13:=CY.symm
     have QD:g22≠g14:=CZ.symm
     have QE:g22≠g15:=C8.symm
     have QF:g22≠g16:=C9.symm
     have QG:g22≠g17:=Da.symm
     have QH:g22≠g18:=Db.symm
     have QI:g22≠g19:=Dc.symm
     have QJ:g22≠g20:=De.symm
     have ap3:w.heap.size≤g22:=by omega
     clear dU mF abW abX abY abZ Vo G6 Qf yu Ze GA GH Zf Zg aiF
     try clear ap2
     have Y1:w.heap.size≤Wc.heap.size:=mB.size
     skip
     try clear JQ
     try clear ab0
     try clear ab1
     try clear ab2
     try clear ab3
     try clear Vq
     try clear Hd lv Hr qw qK Ii xJ Nf Iu
     try clear PM
     try clear ab4
     try clear ab5
     try clear ab6
     try clear ab7
     try clear Vr
     try clear He zJ Ht Hz Ic Ij Io alT Iw
     try clear ab8
     try clear ab9
     try clear aca
     try clear acb
     try clear acd
     try clear Vs
     try clear Hf Hm Hu H9 Ie Ik Ip alU Iy
     try clear ace
     try clear acf
     try clear acg
     try clear ach
     try clear aci
     try clear Vt
     try clear Hg Ho Hw Ia Ig Il Iq alV Iz
     try clear acj
     try clear ack
     try clear acm
     try clear acn
     try clear aco
     try clear Vu
     try clear Hl Hq Hy Ib Ih Im Ir alW IA
     try clear acp
     try clear acr
     try clear acs
     try clear acu
     try clear acv
     try clear Vv
     try clear xB xC xD xE xG xH xI alX IB
     try clear Vw
     try clear Vx
     try clear Vy
     try clear Vz
     try clear VA
     try clear VB
     try clear sN sO sQ sV tq tH tQ aiG CX
     try clear MF
     try clear MG
     try clear MH
     try clear MI
     try clear MJ
     try clear G7
     try clear CR
     try clear sP sS sW tu tJ tT aiH CY
     try clear vP
     try clear zI
     try clear MK
     try clear ML
     try clear MM
     try clear Eo
     try clear CS
     try clear yT sU gN oG tK tV aiI CZ
     try clear MN
     try clear MO
     try clear MP
     try clear MQ
     try clear MR
     try clear Ep
     try clear CU
     try clear yU yV sZ tC tL tX aiJ C8
     try clear vQ
     try clear MS
     try clear MU
     try clear MV
     try clear MW
     try clear Er
     try clear vE
     try clear yX jV yY oH tN tY aiK C9
     try clear wS
     try clear MX
     try clear MZ
     try clear M0
     try clear M3
     try clear G8
     try clear tF
     try clear yZ ng za sI tO oI IC Da
     try clear M4
     try clear M5
     try clear M6
     try clear M7
     try clear M8
     try clear G9
     try clear CV
     try clear zb ze zf zg zh tZ aiL Db
     try clear Et
     try clear M9
     try clear Na
     try clear Nb
     try clear Nc
     try clear Ha
     try clear CW
     try clear zi zk zl zm uf zn IE Dc
     try clear VI
     try clear alY
     try clear alZ
     try clear al0
     try clear al1
     try clear al2
     try clear aiM
     try clear aiN aiO aiP aiQ QK aiR IG De
     try clear VC
     try clear VD
     try clear VE
     try clear VF
     try clear VG
     try clear VH
     try clear QB
     try clear QC QD QE QF QG QH QI QJ
     clear ap3
     skip
     have hcon:=uP (t+v.dive) p.f1 p.f2 Wc
     refine ⟨trivial,(callsIn_wide.2 hcon).mono ?_⟩
     clear hcon
     rintro e Wd ⟨rfl,hb⟩
     replace HP:=bN.below HP hb
     replace HC:=bN.below HC hb
     replace hKp:=qf.step hKp Y1 hb
     replace hN:=aJ hN hb
     replace mT:=af mT hb
     replace mX:=af mX hb
     replace mV:=af mV hb
     replace mK:=af mK hb
     replace mG:=af mG hb
     replace mL:=af mL hb
     replace mBe:=af mBe hb
     replace m13:=af m13 hb
     replace m14:=af m14 hb
     replace m15:=af m15 hb
     replace m16:=af m16 hb
     replace m17:=af m17 hb
     replace m18:=af m18 hb
     replace m19:=af m19 hb
     replace m20:=af m20 hb
     replace m22:=af m22 hb
     replace mB:=aJ mB hb
     clear hb
     have aiS:w.heap.size≤Wd.heap.size:=mB.size
     skip
     cases hbw:iR (t+v.dive) p.f1 p.f2 with
     |false =>
      have hhr:Hid (yS p (t+v.dive) Y = false):=Lib.hid (by unfold yS;rw [hbw];rfl)
      clear hbw
      gi_wp2_with fail
      refine ⟨trivial,?_⟩
      apply_assumption
      gi_wp2_with fail
      skip
      refine oN ?_
      refine Es _ _ _ _ _ _ _ _ _ _ _ _ _ _ _ _ _ _ _ _ _ _ _ _ _ _ _ _ _ _ _ _ _ _ _ _ _ _ _ _ _ _ _ _ _ _ _ _ _ _ _ _ _ _ _ _ _ _ _ _ _ _ _ _ _ _ _ _ _ _ _ _ _ _ _ _ _ _ _ _ _ _ _ _ _ _ _ _ _ _ _ _ _ _ _ _ _ _ _ _ _ w gG g15 g16 g17 g18 g19 g20 g22 _ plan Y U.f1 (t+v.dive) left cost m c0 c1 false there (Value.slice Ap plan.length cp) Wd (fun w'=>jL w gL gB PN plan (Value.slice Ap plan.length cp) Qz Wd w') mB mG m22 m15 m16 m17 m18 m19 m20 HP h20 (by have h_:=HW.out;omega) ?hcall ?hKK
      skip
      case hcall =>
       intro v1 W1_ HP1 hB1 hb1 hk1 hst hback
       obtain ⟨ew0,ew1,ew2,hp2,hd0,hd1⟩:=HW.out
       obtain ⟨ht,hl,hc⟩:=HB0.out
       obtain ⟨hus,hrs⟩:=HUS.out
       have ap6:=hbd.out
       have ap7:=HQ1.out
       have hnK:∀ {k:Nat} {cs:Array Value} {ty:TypeId},aZ Wd k cs ty→ty≠33→aZ W1_ k cs ty:=fun {k cs ty} hb ht=>(hk1 k (aD hb) (bN.ne HP hb ht)).trans hb
       have hm1:wrap64 (m - 1) = (n:Int):=by have h_:=HMM.out;unfold wrap64;omega
       rw [ew0,ew1,hm1]
       have hA1:vD w gL gB Qz P0 W1_:=⟨hnK mL (by decide),hnK mBe (by decide),HC.move (fun k hk=>hk1 k (HC.lt k hk).2 (Zp.out k hk))⟩
       have hcon:=IH Y (t+v.dive) (left - U.f1) (cost+U.f1) (n:Int) (plan++[⟨c0,c1⟩]) (there || false) P0 v1 Qz W1_ rfl EY EY HYB.out EY (by omega) EY ⟨hB1,hnK mT (by decide),hnK mX (by decide),hnK mV (by decide),hnK mK (by decide),hnK mG (by decide)⟩ hA1 HP1 (fun k hk he=>by
        rcases hback with ⟨e1,_⟩|⟨b,e1,e2⟩
        ·exact Zp.out k hk (he.trans e1)
        ·rw [e1] at he;injection he with he;have h_:=(HC.lt k hk).2;omega)
       refine hcon.mono ?_
       intro e w9 SL
       refine ⟨SL.1,?_⟩
       rw [HM3.out,hhr.out]
       exact jL.back hA1 hb1 hk1 HP hst hback SL
      case hKK =>
       intro z92 z93 z94 z95 z96 z97 z98 z99 aii aij aik ail aim z105 ain z107 aio z109 aip aiq w9 hq9
       obtain ⟨BP,SL,bv9,ha9,hv9⟩:=hq9
       have hkX:qf w gL gB ((Value.slice Ap plan.length cp)).ownBlock X_ w9:=(qf.of_below hXs hN).trans BP
       obtain ⟨acD,acE,hn16,acF⟩:=HN.out
       have hE9:∀ {W:World} {k:Nat} {cs:Array Value} {ty:TypeId},qf w gL gB ((Value.slice Ap plan.length cp)).ownBlock W w9→aZ W gL #[Z ab P0.2] 2→aZ W gB #[Qz] 49→bN W w.heap.size (Value.slice Ap plan.length cp) plan→aZ W k cs ty→ty≠2→ty≠49→ty≠33→aZ w9 k cs ty:=fun {W k cs ty} hk hL hB hC hb h1 h2 h3=>aZ.jJ hk hb (fH hb hL h1) (fH hb hB h2) (bN.ne hC hb h3)
       have hkp:=fun {k:Nat} {cs:Array Value} {ty:TypeId} (hb:aZ Wd k cs ty)=>hE9 (ty:=ty) BP mL mBe HP hb
       obtain ⟨hKpX,HPX,bvX,hAX,hbvX⟩:=HQV.out
       skip
       refine ⟨rZ hAX HPX hkX,⟨hkX.1,fun hb=>?_,fun hb=>?_⟩,?_⟩
       ·exact aZ.jJ hkX hb (fH hb hAX.1 (by decide)) (fH hb hAX.2.1 (by decide)) (bN.ne HPX hb (by decide))
       ·exact aZ.jJ hkX hb hQL hQB (bN.ne HPX hb (by decide))
       dsimp only;rw [show List.foldl (stepG s v p n x t left cost plan there) st (List.map Subtype.val (pre++[⟨⟨c0,c1⟩,c2⟩])) = PN from HPN.out];refine ⟨⟨mB.trans BP.1,hkp mT (by decide) (by decide) (by decide),hkp mX (by decide) (by decide) (by decide),hkp mV (by decide) (by decide) (by decide),hkp mK (by decide) (by decide) (by decide),hkp mG (by decide) (by decide) (by decide)⟩,hkp m13 (by decide) (by decide) (by decide),aZ.jJ BP m14 acD (fH m14 mBe (by decide)) (bN.ne HP m14 (by decide)),aZ.jJ BP m15 acE (fH m15 mBe (by decide)) (bN.ne HP m15 (by decide)),aZ.jJ BP m16 hn16 (fH m16 mBe (by decide)) (bN.ne HP m16 (by decide)),aZ.jJ BP m17 (fH m17 mL (by decide)) acF (bN.ne HP m17 (by decide)),hkp m18 (by decide) (by decide) (by decide),hkp m19 (by decide) (by decide) (by decide),hKp.trans BP,SL,bv9,ha9,fun k hk=>?_⟩
       rcases hv9 k hk with h9|h9
       ·exact hbv k h9
       ·exact .inr (Nat.le_trans hKp.1.size h9)
     |true =>
      obtain ⟨aiT,aiU,aiV,aiW⟩:=mH m22
      obtain ⟨acw,acx,acy,acz,acA,acB⟩:=Y6 mK
      gi_wp2_with fail
      skip
      clear aiT aiU aiV aiW acw acx acy acz acA acB
      have hcon:=Am Y p.f0 Wd
      refine ⟨trivial,(callsIn_wide.2 hcon).mono ?_⟩
      clear hcon
      rintro e We ⟨rfl,hb⟩
      replace HP:=bN.below HP hb
      replace HC:=bN.below HC hb
      replace hKp:=qf.step hKp aiS hb
      replace hN:=aJ hN hb
      replace mT:=af mT hb
      replace mX:=af mX hb
      replace mV:=af mV hb
      replace mK:=af mK hb
      replace mG:=af mG hb
      replace mL:=af mL hb
      replace mBe:=af mBe hb
      replace m13:=af m13 hb
      replace m14:=af m14 hb
      replace m15:=af m15 hb
      replace m16:=af m16 hb
      replace m17:=af m17 hb
      replace m18:=af m18 hb
      replace m19:=af m19 hb
      replace m20:=af m20 hb
      replace m22:=af m22 hb
      replace mB:=aJ mB hb
      clear hb
      have asT:w.heap.size≤We.heap.size:=mB.size
      have hhr:Hid (yS p (t+v.dive) Y = (pE Y p.f0 == 2)):=Lib.hid (by unfold yS;rw [hbw];rfl)
      clear hbw
      generalize pE Y p.f0 = ii at*
      gi_wp2_with fail
      skip
      refine oN ?_
      refine Es _ _ _ _ _ _ _ _ _ _ _ _ _ _ _ _ _ _ _ _ _ _ _ _ _ _ _ _ _ _ _ _ _ _ _ _ _ _ _ _ _ _ _ _ _ _ _ _ _ _ _ _ _ _ _ _ _ _ _ _ _ _ _ _ _ _ _ _ _ _ _ _ _ _ _ _ _ _ _ _ _ _ _ _ _ _ _ _ _ _ _ _ _ _ _ _ _ _ _ _ _ w gG g15 g16 g17 g18 g19 g20 g22 _ plan Y U.f1 (t+v.dive) left cost m c0 c1 (ii == 2) there (Value.slice Ap plan.length cp) We (fun w'=>jL w gL gB PN plan (Value.slice Ap plan.length cp) Qz We w') mB mG m22 m15 m16 m17 m18 m19 m20 HP h20 (by have h_:=HW.out;omega) ?hcall ?hKK
      skip
      case hcall =>
       intro v1 W1_ HP1 hB1 hb1 hk1 hst hback
       obtain ⟨ew0,ew1,ew2,hp2,hd0,hd1⟩:=HW.out
       obtain ⟨ht,hl,hc⟩:=HB0.out
       obtain ⟨hus,hrs⟩:=HUS.out
       have ap6:=hbd.out
       have ap7:=HQ1.out
       have hnK:∀ {k:Nat} {cs:Array Value} {ty:TypeId},aZ We k cs ty→ty≠33→aZ W1_ k cs ty:=fun {k cs ty} hb ht=>(hk1 k (aD hb) (bN.ne HP hb ht)).trans hb
       have hm1:wrap64 (m - 1) = (n:Int):=by have h_:=HMM.out;unfold wrap64;omega
       rw [ew0,ew1,hm1]
       have hA1:vD w gL gB Qz P0 W1_:=⟨hnK mL (by decide),hnK mBe (by decide),HC.move (fun k hk=>hk1 k (HC.lt k hk).2 (Zp.out k hk))⟩
       have hcon:=IH Y (t+v.dive) (left - U.f1) (cost+U.f1) (n:Int) (plan++[⟨c0,c1⟩]) (there || (ii == 2)) P0 v1 Qz W1_ rfl EY EY HYB.out EY (by omega) EY ⟨hB1,hnK mT (by decide),hnK mX (by decide),hnK mV (by decide),hnK mK (by decide),hnK mG (by decide)⟩ hA1 HP1 (fun k hk he=>by
        rcases hback with ⟨e1,_⟩|⟨b,e1,e2⟩
        ·exact Zp.out k hk (he.trans e1)
        ·rw [e1] at he;injection he with he;have h_:=(HC.lt k hk).2;omega)
       refine hcon.mono ?_
       intro e w9 SL
       refine ⟨SL.1,?_⟩
       rw [HM3.out,hhr.out]
       exact jL.back hA1 hb1 hk1 HP hst hback SL
      case hKK =>
       intro z92 z93 z94 z95 z96 z97 z98 z99 aii aij aik ail aim z105 ain z107 aio z109 aip aiq w9 hq9
       obtain ⟨BP,SL,bv9,ha9,hv9⟩:=hq9
       have hkX:qf w gL gB ((Value.slice Ap plan.length cp)).ownBlock X_ w9:=(qf.of_below hXs hN).trans BP
       obtain ⟨acD,acE,hn16,acF⟩:=HN.out
       have hE9:∀ {W:World} {k:Nat} {cs:Array Value} {ty:TypeId},qf w gL gB ((Value.slice Ap plan.length cp)).ownBlock W w9→aZ W gL #[Z ab P0.2] 2→aZ W gB #[Qz] 49→bN W w.heap.size (Value.slice Ap plan.length cp) plan→aZ W k cs ty→ty≠2→ty≠49→ty≠33→aZ w9 k cs ty:=fun {W k cs ty} hk hL hB hC hb h1 h2 h3=>aZ.jJ hk hb (fH hb hL h1) (fH hb hB h2) (bN.ne hC hb h3)
       have hkp:=fun {k:Nat} {cs:Array Value} {ty:TypeId} (hb:aZ We k cs ty)=>hE9 (ty:=ty) BP mL mBe HP hb
       obtain ⟨hKpX,HPX,bvX,hAX,hbvX⟩:=HQV.out
       skip
       refine ⟨rZ hAX HPX hkX,⟨hkX.1,fun hb=>?_,fun hb=>?_⟩,?_⟩
       ·exact aZ.jJ hkX hb (fH hb hAX.1 (by decide)) (fH hb hAX.2.1 (by decide)) (bN.ne HPX hb (by decide))
       ·exact aZ.jJ hkX hb hQL hQB (bN.ne HPX hb (by decide))
       dsimp only;rw [show List.foldl (stepG s v p n x t left cost plan there) st (List.map Subtype.val (pre++[⟨⟨c0,c1⟩,c2⟩])) = PN from HPN.out];refine ⟨⟨mB.trans BP.1,hkp mT (by decide) (by decide) (by decide),hkp mX (by decide) (by decide) (by decide),hkp mV (by decide) (by decide) (by decide),hkp mK (by decide) (by decide) (by decide),hkp mG (by decide) (by decide) (by decide)⟩,hkp m13 (by decide) (by decide) (by decide),aZ.jJ BP m14 acD (fH m14 mBe (by decide)) (bN.ne HP m14 (by decide)),aZ.jJ BP m15 acE (fH m15 mBe (by decide)) (bN.ne HP m15 (by decide)),aZ.jJ BP m16 hn16 (fH m16 mBe (by decide)) (bN.ne HP m16 (by decide)),aZ.jJ BP m17 (fH m17 mL (by decide)) acF (bN.ne HP m17 (by decide)),hkp m18 (by decide) (by decide) (by decide),hkp m19 (by decide) (by decide) (by decide),hKp.trans BP,SL,bv9,ha9,fun k hk=>?_⟩
       rcases hv9 k hk with h9|h9
       ·exact hbv k h9
       ·exact .inr (Nat.le_trans hKp.1.size h9)
   case pos =>
    have hq2:decide (0≤P0.2) = true:=decide_eq_true q2
    by_cases q3:P0.2≤cost+U.f1
    case pos =>
     have hq3:decide (P0.2≤cost+U.f1) = true:=decide_eq_true q3
     have HM2:=Lib.hid (HM1.out.trans (if_pos ⟨q2,q3⟩))
     clear HM1 q2 q3
     gi_wp2
     skip
     refine ⟨eD hN,La.below hXs hN,?_⟩
     dsimp only
     rw [HPN.out,HM2.out]
     exact ⟨⟨mB,mT,mX,mV,mK,mG⟩,m13,m14,m15,m16,m17,m18,m19,hKp,HP,Qz,⟨mL,mBe,HC⟩,hbv⟩
    case neg =>
     have hq3:decide (P0.2≤cost+U.f1) = false:=decide_eq_false q3
     have HM:=Lib.hid (HM1.out.trans (if_neg (fun h=>q3 h.2)))
     clear HM1 q2 q3
     have aiu:=(ae mX 0).trans rfl
     obtain ⟨Gj,Gm,Gn,Gp⟩:=mH m13
     have QA:=(ae m14 0).trans rfl
     obtain ⟨SK,Zo⟩:=F8 m20
     gi_wp2_with fail
     skip
     try clear aoe Zh Zi Zj Zk Zl Zm Zn aih F4 aiu Gj Gm Gn Gp QA SK Zo
     clear hw0 hw1
     have hcon:=kD Wa (HTA.out _ mB mT)
     refine ⟨trivial,(callsIn_wide.2 hcon).mono ?_⟩
     clear hcon
     rintro e Wb ⟨rfl,hb⟩
     replace HP:=bN.below HP hb
     replace HC:=bN.below HC hb
     replace hKp:=qf.step hKp ahK hb
     replace hN:=aJ hN hb
     replace mT:=af mT hb
     replace mX:=af mX hb
     replace mV:=af mV hb
     replace mK:=af mK hb
     replace mG:=af mG hb
     replace mL:=af mL hb
     replace mBe:=af mBe hb
     replace m13:=af m13 hb
     replace m14:=af m14 hb
     replace m15:=af m15 hb
     replace m16:=af m16 hb
     replace m17:=af m17 hb
     replace m18:=af m18 hb
     replace m19:=af m19 hb
     replace m20:=af m20 hb
     replace mB:=aJ mB hb
     clear hb
     have Gz:w.heap.size≤Wb.heap.size:=mB.size
     clear kD
     have HM2:=Lib.hid (HM.out.trans rfl)
     clear HM
     by_cases hd:jv s v x t = 0
     case neg =>
      have hd1:(jv s v x t == 0) = false:=beq_eq_false_iff_ne.2 hd
      have hd2:(jv s v x t != 0) = true:=by rw [bne,hd1];rfl
      have hst:=HRT.out hd
      have hrr:=HD0.out hd
      have hQ_:jL w gL gB RR plan (Value.slice Ap plan.length cp) bv V Wb:=by rw [hrr,← hst];exact ⟨hKp,HP,Qz,⟨mL,mBe,HC⟩,hbv⟩
      clear hst hrr hd
      gi_wp2
      skip
      have Zq:=ai (Below.refl Wb.heap.size Wb) (.cells #[Z ab Y.f0.f0,Z ab Y.f0.f1,Z ab Y.f1.f0,Z ab Y.f1.f1] 31)
      exact ⟨eD (aJ hN Zq),rfl,hQ_.below Gz Zq⟩
     case pos =>
      have HM3:=Lib.hid (HM2.out.trans (if_neg (fun h=>h hd)))
      clear HM2
      have hYB:=KBX.out hd
      have HYB:=Lib.hid hYB
      clear hYB
      rw [hd]
      clear hd
      have QA:∀ o_,(Wb.alloc o_).cell? ⟨g14,0,none⟩ = some (Z ab t):=fun o_=>(ae (aa m14 o_) 0).trans rfl
      have Zh:∀ o_,(Wb.alloc o_).cell? ⟨gV,0,none⟩ = some (Z ab v.speed):=fun o_=>(ae (aa mV o_) 0).trans rfl
      have Zi:∀ o_,(Wb.alloc o_).cell? ⟨gV,1,none⟩ = some (Z ab v.dive):=fun o_=>(ae (aa mV o_) 1).trans rfl
      have Zj:∀ o_,(Wb.alloc o_).cell? ⟨gV,2,none⟩ = some (Z ab v.use.f0):=fun o_=>(ae (aa mV o_) 2).trans rfl
      have Zk:∀ o_,(Wb.alloc o_).cell? ⟨gV,3,none⟩ = some (Z ab v.use.f1):=fun o_=>(ae (aa mV o_) 3).trans rfl
      have Zl:∀ o_,(Wb.alloc o_).cell? ⟨gV,4,none⟩ = some (Z ab v.drift.f0):=fun o_=>(ae (aa mV o_) 4).trans rfl
      have Zm:∀ o_,(Wb.alloc o_).cell? ⟨gV,5,none⟩ = some (Z ab v.drift.f1):=fun o_=>(ae (aa mV o_) 5).trans rfl
      have Zn:∀ o_,(Wb.alloc o_).cell? ⟨gV,6,none⟩ = some (Z ab v.reserve):=fun o_=>(ae (aa mV o_) 6).trans rfl
      have acw:∀ o_,(Wb.alloc o_).cell? ⟨gK,0,none⟩ = some (Z ab p.f0.f0.f0):=fun o_=>(ae (aa mK o_) 0).trans rfl
      have acx:∀ o_,(Wb.alloc o_).cell? ⟨gK,1,none⟩ = some (Z ab p.f0.f0.f1):=fun o_=>(ae (aa mK o_) 1).trans rfl
      have acy:∀ o_,(Wb.alloc o_).cell? ⟨gK,2,none⟩ = some (Z ab p.f0.f1.f0):=fun o_=>(ae (aa mK o_) 2).trans rfl
      have acz:∀ o_,(Wb.alloc o_).cell? ⟨gK,3,none⟩ = some (Z ab p.f0.f1.f1):=fun o_=>(ae (aa mK o_) 3).trans rfl
      have acA:∀ o_,(Wb.alloc o_).cell? ⟨gK,4,none⟩ = some (Z ab p.f1):=fun o_=>(ae (aa mK o_) 4).trans rfl
      have acB:∀ o_,(Wb.alloc o_).cell? ⟨gK,5,none⟩ = some (Z ab p.f2):=fun o_=>(ae (aa mK o_) 5).trans rfl
      obtain ⟨_,_,aiC,apZ,aiD,aiE⟩:=HW.out
      obtain ⟨ap0,ap1⟩:=HB0.out.1
      gi_wp2_with fail
      clear QA Zh Zi Zj Zk Zl Zm Zn acw acx acy acz acA acB
      try rw [aiC]
      clear aiD aiE ap0 ap1 apZ aiC
      skip
      have Zq:=ai (Below.refl Wb.heap.size Wb) (.cells #[Z ab Y.f0.f0,Z ab Y.f0.f1,Z ab Y.f1.f0,Z ab Y.f1.f1] 31)
      replace HP:=bN.below HP Zq
      replace HC:=bN.below HC Zq
      replace hKp:=qf.step hKp Gz Zq
      replace hN:=aJ hN Zq
      clear Zq
      have mF:=aD mT
      have abW:=aD mX
      have abX:=aD mV
      have abY:=aD mK
      have abZ:=aD mG
      have Vo:=aD mL
      have G6:=aD mBe
      have Qf:=aD m13
      have yu:=aD m14
      have Ze:=aD m15
      have GA:=aD m16
      have GH:=aD m17
      have Zf:=aD m18
      have Zg:=aD m19
      have aiF:=aD m20
      have m22:aZ (Wb.alloc (.cells #[Z ab Y.f0.f0,Z ab Y.f0.f1,Z ab Y.f1.f0,Z ab Y.f1.f1] 31)) (Wb.heap.size) #[Z ab Y.f0.f0,Z ab Y.f0.f1,Z ab Y.f1.f0,Z ab Y.f1.f1] 31:=asS
      replace mT:aZ (Wb.alloc (.cells #[Z ab Y.f0.f0,Z ab Y.f0.f1,Z ab Y.f1.f0,Z ab Y.f1.f1] 31)) g #[Z ab s.nx,Z ab s.ny,Z ab s.cell,Z ab s.slot,Z ab s.slots,Z ab s.layers,Z ab s.most,.slice B7 s.shores.length d7,.slice B8 s.currents.length d8,Z ab v.speed,Z ab v.dive,Z ab v.use.f0,Z ab v.use.f1,Z ab v.drift.f0,Z ab v.drift.f1,Z ab v.reserve] 110:=(aa mT _)
      replace mX:aZ (Wb.alloc (.cells #[Z ab Y.f0.f0,Z ab Y.f0.f1,Z ab Y.f1.f0,Z ab Y.f1.f1] 31)) gX #[.pointer (some ⟨g,0,none⟩)] 104:=(aa mX _)
      replace mV:aZ (Wb.alloc (.cells #[Z ab Y.f0.f0,Z ab Y.f0.f1,Z ab Y.f1.f0,Z ab Y.f1.f1] 31)) gV #[Z ab v.speed,Z ab v.dive,Z ab v.use.f0,Z ab v.use.f1,Z ab v.drift.f0,Z ab v.drift.f1,Z ab v.reserve] 29:=(aa mV _)
      replace mK:aZ (Wb.alloc (.cells #[Z ab Y.f0.f0,Z ab Y.f0.f1,Z ab Y.f1.f0,Z ab Y.f1.f1] 31)) gK #[Z ab p.f0.f0.f0,Z ab p.f0.f0.f1,Z ab p.f0.f1.f0,Z ab p.f0.f1.f1,Z ab p.f1,Z ab p.f2] 81:=(aa mK _)
      replace mG:aZ (Wb.alloc (.cells #[Z ab Y.f0.f0,Z ab Y.f0.f1,Z ab Y.f1.f0,Z ab Y.f1.f1] 31)) gG #[.func (.func 107) #[] #[.pointer (some ⟨gL,0,none⟩),.pointer (some ⟨gB,0,none⟩),.pointer (some ⟨gX,0,none⟩),.pointer (some ⟨gV,0,none⟩),.pointer (some ⟨gK,0,none⟩),.pointer (some ⟨gG,0,none⟩)]] 141:=(aa mG _)
      replace mL:aZ (Wb.alloc (.cells #[Z ab Y.f0.f0,Z ab Y.f0.f1,Z ab Y.f1.f0,Z ab Y.f1.f1] 31)) gL #[Z ab P0.2] 2:=(aa mL _)
      replace mBe:aZ (Wb.alloc (.cells #[Z ab Y.f0.f0,Z ab Y.f0.f1,Z ab Y.f1.f0,Z ab Y.f1.f1] 31)) gB #[Qz] 49:=(aa mBe _)
      replace m13:aZ (Wb.alloc (.cells #[Z ab Y.f0.f0,Z ab Y.f0.f1,Z ab Y.f1.f0,Z ab Y.f1.f1] 31)) g13 #[Z ab x.f0.f0,Z ab x.f0.f1,Z ab x.f1.f0,Z ab x.f1.f1] 31:=(aa m13 _)
      replace m14:aZ (Wb.alloc (.cells #[Z ab Y.f0.f0,Z ab Y.f0.f1,Z ab Y.f1.f0,Z ab Y.f1.f1] 31)) g14 #[Z ab t] 2:=(aa m14 _)
      replace m15:aZ (Wb.alloc (.cells #[Z ab Y.f0.f0,Z ab Y.f0.f1,Z ab Y.f1.f0,Z ab Y.f1.f1] 31)) g15 #[Z ab left] 2:=(aa m15 _)
      replace m16:aZ (Wb.alloc (.cells #[Z ab Y.f0.f0,Z ab Y.f0.f1,Z ab Y.f1.f0,Z ab Y.f1.f1] 31)) g16 #[Z ab cost] 2:=(aa m16 _)
      replace m17:aZ (Wb.alloc (.cells #[Z ab Y.f0.f0,Z ab Y.f0.f1,Z ab Y.f1.f0,Z ab Y.f1.f1] 31)) g17 #[(Value.slice Ap plan.length cp)] 49:=(aa m17 _)
      replace m18:aZ (Wb.alloc (.cells #[Z ab Y.f0.f0,Z ab Y.f0.f1,Z ab Y.f1.f0,Z ab Y.f1.f1] 31)) g18 #[.bool there] 4:=(aa m18 _)
      replace m19:aZ (Wb.alloc (.cells #[Z ab Y.f0.f0,Z ab Y.f0.f1,Z ab Y.f1.f0,Z ab Y.f1.f1] 31)) g19 #[Z ab m] 3:=(aa m19 _)
      replace m20:aZ (Wb.alloc (.cells #[Z ab Y.f0.f0,Z ab Y.f0.f1,Z ab Y.f1.f0,Z ab Y.f1.f1] 31)) g20 #[Z ab c0,Z ab c1] 33:=(aa m20 _)
      replace mB:Below w.heap.size w (Wb.alloc (.cells #[Z ab Y.f0.f0,Z ab Y.f0.f1,Z ab Y.f1.f0,Z ab Y.f1.f1] 31)):=(ai mB _)
      have dU:w.heap.size≤Wb.heap.size:=Gz
      generalize jq:(Wb.alloc (.cells #[Z ab Y.f0.f0,Z ab Y.f0.f1,Z ab Y.f1.f0,Z ab Y.f1.f1] 31)) = Wc at mT mX mV mK mG mL mBe m13 m14 m15 m16 m17 m18 m19 m20 m22 mB HP HC hKp hN ⊢
      clear jq
      generalize ap2:Wb.heap.size = g22 at m22 ⊢
      have Iu:g≠g22:=by omega
      have Iw:gX≠g22:=by omega
      have Iy:gV≠g22:=by omega
      have Iz:gK≠g22:=by omega
      have IA:gG≠g22:=by omega
      have IB:gL≠g22:=by omega
      have CX:gB≠g22:=by omega
      have CY:g13≠g22:=by omega
      have CZ:g14≠g22:=by omega
      have C8:g15≠g22:=by omega
      have C9:g16≠g22:=by omega
      have Da:g17≠g22:=by omega
      have Db:g18≠g22:=by omega
      have Dc:g19≠g22:=by omega
      have De:g20≠g22:=by omega
      have VC:g22≠g:=Iu.symm
      have VD:g22≠gX:=Iw.symm
      have VE:g22≠gV:=Iy.symm
      have VF:g22≠gK:=Iz.symm
      have VG:g22≠gG:=IA.symm
      have VH:g22≠gL:=IB.symm
      have QB:g22≠gB:=CX.symm
      have QC:g22≠g13:=CY.symm
      have QD:g22≠g14:=CZ.symm
      have QE:g22≠g15:=C8.symm
      have QF:g22≠g16:=C9.symm
      have QG:g22≠g17:=Da.symm
      have QH:g22≠g18:=Db.symm
      have QI:g22≠g19:=Dc.symm
      have QJ:g22≠g20:=De.symm
      have ap3:w.heap.size≤g22:=by omega
      clear dU mF abW abX abY abZ Vo G6 Qf yu Ze GA GH Zf Zg aiF
      try clear ap2
      have Y1:w.heap.size≤Wc.heap.size:=mB.size
      skip
      try clear JQ
      try clear ab0
      try clear ab1
      try clear ab2
      try clear ab3
      try clear Vq
      try clear Hd lv Hr qw qK Ii xJ Nf Iu
      try clear PM
      try clear ab4
      try clear ab5
      try clear ab6
      try clear ab7
      try clear Vr
      try clear He zJ Ht Hz Ic Ij Io alT Iw
      try clear ab8
      try clear ab9
      try clear aca
      try clear acb
      try clear acd
      try clear Vs
      try clear Hf Hm Hu H9 Ie Ik Ip alU Iy
      try clear ace
      try clear acf
      try clear acg
      try clear ach
      try clear aci
      try clear Vt
      try clear Hg Ho Hw Ia Ig Il Iq alV Iz
      try clear acj
      try clear ack
      try clear acm
      try clear acn
      try clear aco
      try clear Vu
      try clear Hl Hq Hy Ib Ih Im Ir alW IA
      try clear acp
      try clear acr
      try clear acs
      try clear acu
      try clear acv
      try clear Vv
      try clear xB xC xD xE xG xH xI alX IB
      try clear Vw
      try clear Vx
      try clear Vy
      try clear Vz
      try clear VA
      try clear VB
      try clear sN sO sQ sV tq tH tQ aiG CX
      try clear MF
      try clear MG
      try clear MH
      try clear MI
      try clear MJ
      try clear G7
      try clear CR
      try clear sP sS sW tu tJ tT aiH CY
      try clear vP
      try clear zI
      try clear MK
      try clear ML
      try clear MM
      try clear Eo
      try clear CS
      try clear yT sU gN oG tK tV aiI CZ
      try clear MN
      try clear MO
      try clear MP
      try clear MQ
      try clear MR
      try clear Ep
      try clear CU
      try clear yU yV sZ tC tL tX aiJ C8
      try clear vQ
      try clear MS
      try clear MU
      try clear MV
      try clear MW
      try clear Er
      try clear vE
      try clear yX jV yY oH tN tY aiK C9
      try clear wS
      try clear MX
      try clear MZ
      try clear M0
      try clear M3
      try clear G8
      try clear tF
      try clear yZ ng za sI tO oI IC Da
      try clear M4
      try clear M5
      try clear M6
      try clear M7
      try clear M8
      try clear G9
      try clear CV
      try clear zb ze zf zg zh tZ aiL Db
      try clear Et
      try clear M9
      try clear Na
      try clear Nb
      try clear Nc
      try clear Ha
      try clear CW
      try clear zi zk zl zm uf zn IE Dc
      try clear VI
      try clear alY
      try clear alZ
      try clear al0
      try clear al1
      try clear al2
      try clear aiM
      try clear aiN aiO aiP aiQ QK aiR IG De
      try clear VC
      try clear VD
      try clear VE
      try clear VF
      try clear VG
      try clear VH
      try clear QB
      try clear QC QD QE QF QG QH QI QJ
      clear ap3
      skip
      have hcon:=uP (t+v.dive) p.f1 p.f2 Wc
      refine ⟨trivial,(callsIn_wide.2 hcon).mono ?_⟩
      clear hcon
      rintro e Wd ⟨rfl,hb⟩
      replace HP:=bN.below HP hb
      replace HC:=bN.below HC hb
      replace hKp:=qf.step hKp Y1 hb
      replace hN:=aJ hN hb
      replace mT:=af mT hb
      replace mX:=af mX hb
      replace mV:=af mV hb
      replace mK:=af mK hb
      replace mG:=af mG hb
      replace mL:=af mL hb
      replace mBe:=af mBe hb
      replace m13:=af m13 hb
      replace m14:=af m14 hb
      replace m15:=af m15 hb
      replace m16:=af m16 hb
      replace m17:=af m17 hb
      replace m18:=af m18 hb
      replace m19:=af m19 hb
      replace m20:=af m20 hb
      replace m22:=af m22 hb
      replace mB:=aJ mB hb
      clear hb
      have aiS:w.heap.size≤Wd.heap.size:=mB.size
      skip
      cases hbw:iR (t+v.dive) p.f1 p.f2 with
      |false =>
       have hhr:Hid (yS p (t+v.dive) Y = false):=Lib.hid (by unfold yS;rw [hbw];rfl)
       clear hbw
       gi_wp2_with fail
       refine ⟨trivial,?_⟩
       apply_assumption
       gi_wp2_with fail
       skip
       refine oN ?_
       refine Es _ _ _ _ _ _ _ _ _ _ _ _ _ _ _ _ _ _ _ _ _ _ _ _ _ _ _ _ _ _ _ _ _ _ _ _ _ _ _ _ _ _ _ _ _ _ _ _ _ _ _ _ _ _ _ _ _ _ _ _ _ _ _ _ _ _ _ _ _ _ _ _ _ _ _ _ _ _ _ _ _ _ _ _ _ _ _ _ _ _ _ _ _ _ _ _ _ _ _ _ _ w gG g15 g16 g17 g18 g19 g20 g22 _ plan Y U.f1 (t+v.dive) left cost m c0 c1 false there (Value.slice Ap plan.length cp) Wd (fun w'=>jL w gL gB PN plan (Value.slice Ap plan.length cp) Qz Wd w') mB mG m22 m15 m16 m17 m18 m19 m20 HP h20 (by have h_:=HW.out;omega) ?hcall ?hKK
       skip
       case hcall =>
        intro v1 W1_ HP1 hB1 hb1 hk1 hst hback
        obtain ⟨ew0,ew1,ew2,hp2,hd0,hd1⟩:=HW.out
        obtain ⟨ht,hl,hc⟩:=HB0.out
        obtain ⟨hus,hrs⟩:=HUS.out
        have ap6:=hbd.out
        have ap7:=HQ1.out
        have hnK:∀ {k:Nat} {cs:Array Value} {ty:TypeId},aZ Wd k cs ty→ty≠33→aZ W1_ k cs ty:=fun {k cs ty} hb ht=>(hk1 k (aD hb) (bN.ne HP hb ht)).trans hb
        have hm1:wrap64 (m - 1) = (n:Int):=by have h_:=HMM.out;unfold wrap64;omega
        rw [ew0,ew1,hm1]
        have hA1:vD w gL gB Qz P0 W1_:=⟨hnK mL (by decide),hnK mBe (by decide),HC.move (fun k hk=>hk1 k (HC.lt k hk).2 (Zp.out k hk))⟩
        have hcon:=IH Y (t+v.dive) (left - U.f1) (cost+U.f1) (n:Int) (plan++[⟨c0,c1⟩]) (there || false) P0 v1 Qz W1_ rfl EY EY HYB.out EY (by omega) EY ⟨hB1,hnK mT (by decide),hnK mX (by decide),hnK mV (by decide),hnK mK (by decide),hnK mG (by decide)⟩ hA1 HP1 (fun k hk he=>by
         rcases hback with ⟨e1,_⟩|⟨b,e1,e2⟩
         ·exact Zp.out k hk (he.trans e1)
         ·rw [e1] at he;injection he with he;have h_:=(HC.lt k hk).2;omega)
        refine hcon.mono ?_
        intro e w9 SL
        refine ⟨SL.1,?_⟩
        rw [HM3.out,hhr.out]
        exact jL.back hA1 hb1 hk1 HP hst hback SL
       case hKK =>
        intro z92 z93 z94 z95 z96 z97 z98 z99 aii aij aik ail aim z105 ain z107 aio z109 aip aiq w9 hq9
        obtain ⟨BP,SL,bv9,ha9,hv9⟩:=hq9
        have hkX:qf w gL gB ((Value.slice Ap plan.length cp)).ownBlock X_ w9:=(qf.of_below hXs hN).trans BP
        obtain ⟨acD,acE,hn16,acF⟩:=HN.out
        have hE9:∀ {W:World} {k:Nat} {cs:Array Value} {ty:TypeId},qf w gL gB ((Value.slice Ap plan.length cp)).ownBlock W w9→aZ W gL #[Z ab P0.2] 2→aZ W gB #[Qz] 49→bN W w.heap.size (Value.slice Ap plan.length cp) plan→aZ W k cs ty→ty≠2→ty≠49→ty≠33→aZ w9 k cs ty:=fun {W k cs ty} hk hL hB hC hb h1 h2 h3=>aZ.jJ hk hb (fH hb hL h1) (fH hb hB h2) (bN.ne hC hb h3)
        have hkp:=fun {k:Nat} {cs:Array Value} {ty:TypeId} (hb:aZ Wd k cs ty)=>hE9 (ty:=ty) BP mL mBe HP hb
        obtain ⟨hKpX,HPX,bvX,hAX,hbvX⟩:=HQV.out
        skip
        refine ⟨rZ hAX HPX hkX,⟨hkX.1,fun hb=>?_,fun hb=>?_⟩,?_⟩
        ·exact aZ.jJ hkX hb (fH hb hAX.1 (by decide)) (fH hb hAX.2.1 (by decide)) (bN.ne HPX hb (by decide))
        ·exact aZ.jJ hkX hb hQL hQB (bN.ne HPX hb (by decide))
        dsimp only;rw [show List.foldl (stepG s v p n x t left cost plan there) st (List.map Subtype.val (pre++[⟨⟨c0,c1⟩,c2⟩])) = PN from HPN.out];refine ⟨⟨mB.trans BP.1,hkp mT (by decide) (by decide) (by decide),hkp mX (by decide) (by decide) (by decide),hkp mV (by decide) (by decide) (by decide),hkp mK (by decide) (by decide) (by decide),hkp mG (by decide) (by decide) (by decide)⟩,hkp m13 (by decide) (by decide) (by decide),aZ.jJ BP m14 acD (fH m14 mBe (by decide)) (bN.ne HP m14 (by decide)),aZ.jJ BP m15 acE (fH m15 mBe (by decide)) (bN.ne HP m15 (by decide)),aZ.jJ BP m16 hn16 (fH m16 mBe (by decide)) (bN.ne HP m16 (by decide)),aZ.jJ BP m17 (fH m17 mL (by decide)) acF (bN.ne HP m17 (by decide)),hkp m18 (by decide) (by decide) (by decide),hkp m19 (by decide) (by decide) (by decide),hKp.trans BP,SL,bv9,ha9,fun k hk=>?_⟩
        rcases hv9 k hk with h9|h9
        ·exact hbv k h9
        ·exact .inr (Nat.le_trans hKp.1.size h9)
      |true =>
       obtain ⟨aiT,aiU,aiV,aiW⟩:=mH m22
       obtain ⟨acw,acx,acy,acz,acA,acB⟩:=Y6 mK
       gi_wp2_with fail
       skip
       clear aiT aiU aiV aiW acw acx acy acz acA acB
       have hcon:=Am Y p.f0 Wd
       refine ⟨trivial,(callsIn_wide.2 hcon).mono ?_⟩
       clear hcon
       rintro e We ⟨rfl,hb⟩
       replace HP:=bN.below HP hb
       replace HC:=bN.below HC hb
       replace hKp:=qf.step hKp aiS hb
       replace hN:=aJ hN hb
       replace mT:=af mT hb
       replace mX:=af mX hb
       replace mV:=af mV hb
       replace mK:=af mK hb
       replace mG:=af mG hb
       replace mL:=af mL hb
       replace mBe:=af mBe hb
       replace m13:=af m13 hb
       replace m14:=af m14 hb
       replace m15:=af m15 hb
       replace m16:=af m16 hb
       replace m17:=af m17 hb
       replace m18:=af m18 hb
       replace m19:=af m19 hb
       replace m20:=af m20 hb
       replace m22:=af m22 hb
       replace mB:=aJ mB hb
       clear hb
       have asT:w.heap.size≤We.heap.size:=mB.size
       have hhr:Hid (yS p (t+v.dive) Y = (pE Y p.f0 == 2)):=Lib.hid (by unfold yS;rw [hbw];rfl)
       clear hbw
       generalize pE Y p.f0 = ii at*
       gi_wp2_with fail
       skip
       refine oN ?_
       refine Es _ _ _ _ _ _ _ _ _ _ _ _ _ _ _ _ _ _ _ _ _ _ _ _ _ _ _ _ _ _ _ _ _ _ _ _ _ _ _ _ _ _ _ _ _ _ _ _ _ _ _ _ _ _ _ _ _ _ _ _ _ _ _ _ _ _ _ _ _ _ _ _ _ _ _ _ _ _ _ _ _ _ _ _ _ _ _ _ _ _ _ _ _ _ _ _ _ _ _ _ _ w gG g15 g16 g17 g18 g19 g20 g22 _ plan Y U.f1 (t+v.dive) left cost m c0 c1 (ii == 2) there (Value.slice Ap plan.length cp) We (fun w'=>jL w gL gB PN plan (Value.slice Ap plan.length cp) Qz We w') mB mG m22 m15 m16 m17 m18 m19 m20 HP h20 (by have h_:=HW.out;omega) ?hcall ?hKK
       skip
       case hcall =>
        intro v1 W1_ HP1 hB1 hb1 hk1 hst hback
        obtain ⟨ew0,ew1,ew2,hp2,hd0,hd1⟩:=HW.out
        obtain ⟨ht,hl,hc⟩:=HB0.out
        obtain ⟨hus,hrs⟩:=HUS.out
        have ap6:=hbd.out
        have ap7:=HQ1.out
        have hnK:∀ {k:Nat} {cs:Array Value} {ty:TypeId},aZ We k cs ty→ty≠33→aZ W1_ k cs ty:=fun {k cs ty} hb ht=>(hk1 k (aD hb) (bN.ne HP hb ht)).trans hb
        have hm1:wrap64 (m - 1) = (n:Int):=by have h_:=HMM.out;unfold wrap64;omega
        rw [ew0,ew1,hm1]
        have hA1:vD w gL gB Qz P0 W1_:=⟨hnK mL (by decide),hnK mBe (by decide),HC.move (fun k hk=>hk1 k (HC.lt k hk).2 (Zp.out k hk))⟩
        have hcon:=IH Y (t+v.dive) (left - U.f1) (cost+U.f1) (n:Int) (plan++[⟨c0,c1⟩]) (there || (ii == 2)) P0 v1 Qz W1_ rfl EY EY HYB.out EY (by omega) EY ⟨hB1,hnK mT (by decide),hnK mX (by decide),hnK mV (by decide),hnK mK (by decide),hnK mG (by decide)⟩ hA1 HP1 (fun k hk he=>by
         rcases hback with ⟨e1,_⟩|⟨b,e1,e2⟩
         ·exact Zp.out k hk (he.trans e1)
         ·rw [e1] at he;injection he with he;have h_:=(HC.lt k hk).2;omega)
        refine hcon.mono ?_
        intro e w9 SL
        refine ⟨SL.1,?_⟩
        rw [HM3.out,hhr.out]
        exact jL.back hA1 hb1 hk1 HP hst hback SL
       case hKK =>
        intro z92 z93 z94 z95 z96 z97 z98 z99 aii aij aik ail aim z105 ain z107 aio z109 aip aiq w9 hq9
        obtain ⟨BP,SL,bv9,ha9,hv9⟩:=hq9
        have hkX:qf w gL gB ((Value.slice Ap plan.length cp)).ownBlock X_ w9:=(qf.of_below hXs hN).trans BP
        obtain ⟨acD,acE,hn16,acF⟩:=HN.out
        have hE9:∀ {W:World} {k:Nat} {cs:Array Value} {ty:TypeId},qf w gL gB ((Value.slice Ap plan.length cp)).ownBlock W w9→aZ W gL #[Z ab P0.2] 2→aZ W gB #[Qz] 49→bN W w.heap.size (Value.slice Ap plan.length cp) plan→aZ W k cs ty→ty≠2→ty≠49→ty≠33→aZ w9 k cs ty:=fun {W k cs ty} hk hL hB hC hb h1 h2 h3=>aZ.jJ hk hb (fH hb hL h1) (fH hb hB h2) (bN.ne hC hb h3)
        have hkp:=fun {k:Nat} {cs:Array Value} {ty:TypeId} (hb:aZ We k cs ty)=>hE9 (ty:=ty) BP mL mBe HP hb
        obtain ⟨hKpX,HPX,bvX,hAX,hbvX⟩:=HQV.out
        skip
        refine ⟨rZ hAX HPX hkX,⟨hkX.1,fun hb=>?_,fun hb=>?_⟩,?_⟩
        ·exact aZ.jJ hkX hb (fH hb hAX.1 (by decide)) (fH hb hAX.2.1 (by decide)) (bN.ne HPX hb (by decide))
        ·exact aZ.jJ hkX hb hQL hQB (bN.ne HPX hb (by decide))
        dsimp only;rw [show List.foldl (stepG s v p n x t left cost plan there) st (List.map Subtype.val (pre++[⟨⟨c0,c1⟩,c2⟩])) = PN from HPN.out];refine ⟨⟨mB.trans BP.1,hkp mT (by decide) (by decide) (by decide),hkp mX (by decide) (by decide) (by decide),hkp mV (by decide) (by decide) (by decide),hkp mK (by decide) (by decide) (by decide),hkp mG (by decide) (by decide) (by decide)⟩,hkp m13 (by decide) (by decide) (by decide),aZ.jJ BP m14 acD (fH m14 mBe (by decide)) (bN.ne HP m14 (by decide)),aZ.jJ BP m15 acE (fH m15 mBe (by decide)) (bN.ne HP m15 (by decide)),aZ.jJ BP m16 hn16 (fH m16 mBe (by decide)) (bN.ne HP m16 (by decide)),aZ.jJ BP m17 (fH m17 mL (by decide)) acF (bN.ne HP m17 (by decide)),hkp m18 (by decide) (by decide) (by decide),hkp m19 (by decide) (by decide) (by decide),hKp.trans BP,SL,bv9,ha9,fun k hk=>?_⟩
        rcases hv9 k hk with h9|h9
        ·exact hbv k h9
        ·exact .inr (Nat.le_trans hKp.1.size h9)
theorem Zr (w:World) (s:fT) (v:iw) (p:xz) (g gX gV gK gG gL gB:Nat) (B7 B8:Option Addr) (d7 d8:Nat) (hTA:∀ W',Below w.heap.size w W'→aZ W' g #[Z ab s.nx,Z ab s.ny,Z ab s.cell,Z ab s.slot,Z ab s.slots,Z ab s.layers,Z ab s.most,.slice B7 s.shores.length d7,.slice B8 s.currents.length d8,Z ab v.speed,Z ab v.dive,Z ab v.use.f0,Z ab v.use.f1,Z ab v.drift.f0,Z ab v.drift.f1,Z ab v.reserve] 110→dZ W' g s v) (hS:BQ s) (hV:uF v) (hv:uq v = true) (hGL:w.heap.size≤gL) (hGB:w.heap.size≤gB):∀ n,ait w s v p g gX gV gK gG gL gB B7 B8 d7 d8 n
 |0=>by
  intro x t left cost m plan there st pv bv V hm h0 h3 hx ht hl hc hE hA hP hbn
  obtain ⟨Ap,cp,rfl⟩:=hP.slice
  exact agh w s v p g gX gV gK gG gL gB B7 B8 d7 d8 hGL hGB x t left cost m plan there st Ap cp bv V (by omega) (by omega) hE hA hP
 |n+1=>by
  intro x t left cost m plan there st pv bv V hm h0 h3 hx ht hl hc hE hA hP hbn
  obtain ⟨Ap,cp,rfl⟩:=hP.slice
  exact agi w s v p g gX gV gK gG gL gB B7 B8 d7 d8 hTA hS hV hv hGL hGB n (Zr w s v p g gX gV gK gG gL gB B7 B8 d7 d8 hTA hS hV hv hGL hGB n) x t left cost m plan there st Ap cp bv V (by omega) h3 hx ht hl hc hE hA hP hbn
end Go.Proofs.Ytmhaiihjfgfaoaa.Gl
end
