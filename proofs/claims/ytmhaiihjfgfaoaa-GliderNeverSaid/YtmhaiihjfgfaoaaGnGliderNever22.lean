import Derived.Test.YtmhaiihjfgfaoaaGnGliderNever3
import Derived.Test.YtmhaiihjfgfaoaaGnGliderNever19
import Derived.Test.YtmhaiihjfgfaoaaGnGliderNever21
import Derived.Test.YtmhaiihjfgfaoaaGnGliderNever17
set_option linter.unusedSimpArgs false
set_option linter.unusedVariables false
open Go.Value renaming int → Z
open Go.IntKind renaming i64 → ab
open Bool renaming true → ac, false → al
section
namespace Go.Proofs.Ytmhaiihjfgfaoaa.Gl
open Go.RowKit Go.Shelf Go.Proofs.YtmhaiihjfgfaoaaW.PrintWords Go.Proofs.YtmhaiihjfgfaoaaW.PrintLast Go.Proofs.YtmhaiihjfgfaoaaW.PrintMore Go.Proofs.Ytmhaiihjfgfaoaa.Pr Go.Proofs.YtmhaiihjfgfaoaaW.Round
set_option linter.unusedVariables false
set_option linter.unusedSimpArgs false
attribute [local go_sem] dw dx dM dN dz
def GX (dive:Int) (p:xz):List cZ→Int→Bool
 |[],_=>false
 |b :: l,t=>(iR (t+dive) p.f1 p.f2 && decide (pE b p.f0≠0)) || GX dive p l (t+dive)
theorem af8 (v:iw) (p:xz) (l:List cZ) (hl:l.length≤64) (hd:1≤v.dive∧v.dive≤131072):∀ (m i k:Nat) (t:Int),i+m = l.length→m < k→0≤t→t≤1073741824+(i:Int)*131072→
 bK.l0 k t l (l.length:Int) (i:Int) v.speed v.dive v.use.f0 v.use.f1 v.drift.f0 v.drift.f1 v.reserve p.f0.f0.f0 p.f0.f0.f1 p.f0.f1.f0 p.f0.f1.f1 p.f1 p.f2 = some (GX v.dive p (l.drop i) t):=by
 intro m
 induction m with
 |zero =>
  intro i k t h hk h0 h1
  obtain ⟨k,rfl⟩:∃ z,k = z+1:=⟨k - 1,by omega⟩
  have:l.drop i = []:=List.drop_eq_nil_iff.2 (by omega)
  rw [bK.l0,if_neg (by omega),this]
  rfl
 |succ m ih =>
  intro i k t h hk h0 h1
  obtain ⟨k,rfl⟩:∃ z,k = z+1:=⟨k - 1,by omega⟩
  have hi:i < l.length:=by omega
  have e:bE l (i:Int) = l[i]:=by unfold bE;simp [hi]
  have hc:((i+1:Nat):Int) = (i:Int)+1:=by omega
  have hw:wrap64 (t+v.dive) = t+v.dive:=by unfold wrap64;omega
  have hw2:wrap64 ((i:Int)+1) = ((i+1:Nat):Int):=by unfold wrap64;omega
  have hin:eY.f l[i].f0.f0 l[i].f0.f1 l[i].f1.f0 l[i].f1.f1 p.f0.f0.f0 p.f0.f0.f1 p.f0.f1.f0 p.f0.f1.f1 = some (pE l[i] p.f0):=rfl
  have ih1:=ih (i+1) k (t+v.dive) (by omega) (by omega) (by omega) (by omega)
  rw [bK.l0,if_pos (by omega),if_pos (by omega),if_pos (by omega),e,hw,hw2,Gb,Option.bind_some,ih1,List.drop_eq_getElem_cons hi]
  rw [show GX v.dive p (l[i] :: l.drop (i+1)) t = ((iR (t+v.dive) p.f1 p.f2 && decide (pE l[i] p.f0≠0)) || GX v.dive p (l.drop (i+1)) (t+v.dive)) from rfl]
  cases hb:iR (t+v.dive) p.f1 p.f2 with
  |false=>rw [if_neg (by decide),Bool.false_and,Bool.false_or]
  |true =>
   rw [if_pos rfl,hin,Option.bind_some,Bool.true_and]
   by_cases hz:pE l[i] p.f0 = 0
   ·rw [if_pos hz,decide_eq_false (fun q=>q hz),Bool.false_or]
   ·rw [if_neg hz,decide_eq_true hz,Bool.true_or]
theorem af9 (v:iw) (p:xz) (l:List cZ) (t:Int) (hl:l.length≤64) (hd:1≤v.dive∧v.dive≤131072) (h0:0≤t) (h1:t≤1073741824):bK.f 66 v.speed v.dive v.use.f0 v.use.f1 v.drift.f0 v.drift.f1 v.reserve t l p.f0.f0.f0 p.f0.f0.f1 p.f0.f1.f0 p.f0.f1.f1 p.f1 p.f2 = some (GX v.dive p l t):=by
 unfold bK.f
 have:=af8 v p l hl hd l.length 0 66 t (by omega) (by omega) h0 (by omega)
 rw [List.drop_zero] at this
 exact this
theorem SE (s:fT) (v:iw):∀ (n:Nat) (x:cZ) (t:Int) (out:List cZ),(iZ s v n x t out).1.length≤out.length+n
 |0,x,t,out=>by unfold iZ;exact Nat.le_refl _
 |n+1,x,t,out=>by
  unfold iZ
  split
  ·exact Nat.zero_le _
  ·have:=SE s v n (Cy s v x t) (t+v.dive) (out++[Cy s v x t])
   rw [List.length_append,List.length_singleton] at this
   omega
def vB (s:fT) (v:iw) (x:cZ) (t:Int) (p:xz) (d:Int):List cZ × Int:=if eB s v x t≠0 then ([],eB s v x t) else if sJ p = false then ([],2) else if d < 1∨d > 64 then ([],3) else if (iZ s v d.toNat x t []).2≠0 then ([],(iZ s v d.toNat x t []).2) else if GX v.dive p (iZ s v d.toNat x t []).1 t = true then ([],15) else iZ s v d.toNat x t []
set_option maxRecDepth 100000 in
set_option maxHeartbeats 8000000 in
theorem aga (s:fT) (v:iw) (x:cZ) (t:Int) (p:xz) (d:Int) (A7 A8:Option Addr) (c7 c8:Nat) (w:World) (h7:s.shores.length≤c7) (Ry:Kd.C Kd.bool w A7 s.shores.length s.shores) (h8:s.currents.length≤c8) (JL:Kd.C Cm w A8 s.currents.length s.currents):
 Calls Try.prog 53 #[.agg #[Z ab s.nx,Z ab s.ny,Z ab s.cell,Z ab s.slot,Z ab s.slots,Z ab s.layers,Z ab s.most,.slice A7 s.shores.length c7,.slice A8 s.currents.length c8],.agg #[Z ab v.speed,Z ab v.dive,Z ab v.use.f0,Z ab v.use.f1,Z ab v.drift.f0,Z ab v.drift.f1,Z ab v.reserve],.agg #[Z ab x.f0.f0,Z ab x.f0.f1,Z ab x.f1.f0,Z ab x.f1.f1],Z ab t,.agg #[Z ab p.f0.f0.f0,Z ab p.f0.f0.f1,Z ab p.f0.f1.f0,Z ab p.f0.f1.f1,Z ab p.f1,Z ab p.f2],Z ab d] w (YP (vB s v x t p d) w):=by
 have Cn:=Try.underlying25
 have xX:=Try.underlying29
 have pG:=Try.underlying31
 have mE:=Try.underlying27
 have abI:=Try.underlying81
 have HX:Hid (vB s v x t p d = if eB s v x t≠0 then ([],eB s v x t) else if sJ p = false then ([],2) else if d < 1∨d > 64 then ([],3) else if (iZ s v d.toNat x t []).2≠0 then ([],(iZ s v d.toNat x t []).2) else if GX v.dive p (iZ s v d.toNat x t []).1 t = true then ([],15) else iZ s v d.toNat x t []):=Lib.hid rfl
 have hbg:eB s v x t = if il s v≠0 then il s v else ow x t:=rfl
 have HBG:=Lib.hid hbg
 clear hbg
 go_enter Try.func53,Try.ntmps53
 go_wp2_with fail
 have m6:aZ ((((w.alloc (.cells #[Z ab s.nx,Z ab s.ny,Z ab s.cell,Z ab s.slot,Z ab s.slots,Z ab s.layers,Z ab s.most,.slice A7 s.shores.length c7,.slice A8 s.currents.length c8] 25)).alloc (.cells #[Z ab v.speed,Z ab v.dive,Z ab v.use.f0,Z ab v.use.f1,Z ab v.drift.f0,Z ab v.drift.f1,Z ab v.reserve] 29)).alloc (.cells #[Z ab x.f0.f0,Z ab x.f0.f1,Z ab x.f1.f0,Z ab x.f1.f1] 31)).alloc (.cells #[Z ab p.f0.f0.f0,Z ab p.f0.f0.f1,Z ab p.f0.f1.f0,Z ab p.f0.f1.f1,Z ab p.f1,Z ab p.f2] 81)) (w.heap.size) #[Z ab s.nx,Z ab s.ny,Z ab s.cell,Z ab s.slot,Z ab s.slots,Z ab s.layers,Z ab s.most,.slice A7 s.shores.length c7,.slice A8 s.currents.length c8] 25:=(aa (aa (aa RI _) _) _)
 have m7:aZ ((((w.alloc (.cells #[Z ab s.nx,Z ab s.ny,Z ab s.cell,Z ab s.slot,Z ab s.slots,Z ab s.layers,Z ab s.most,.slice A7 s.shores.length c7,.slice A8 s.currents.length c8] 25)).alloc (.cells #[Z ab v.speed,Z ab v.dive,Z ab v.use.f0,Z ab v.use.f1,Z ab v.drift.f0,Z ab v.drift.f1,Z ab v.reserve] 29)).alloc (.cells #[Z ab x.f0.f0,Z ab x.f0.f1,Z ab x.f1.f0,Z ab x.f1.f1] 31)).alloc (.cells #[Z ab p.f0.f0.f0,Z ab p.f0.f0.f1,Z ab p.f0.f1.f0,Z ab p.f0.f1.f1,Z ab p.f1,Z ab p.f2] 81)) (w.heap.size+1) #[Z ab v.speed,Z ab v.dive,Z ab v.use.f0,Z ab v.use.f1,Z ab v.drift.f0,Z ab v.drift.f1,Z ab v.reserve] 29:=(aa (aa TS _) _)
 have m8:aZ ((((w.alloc (.cells #[Z ab s.nx,Z ab s.ny,Z ab s.cell,Z ab s.slot,Z ab s.slots,Z ab s.layers,Z ab s.most,.slice A7 s.shores.length c7,.slice A8 s.currents.length c8] 25)).alloc (.cells #[Z ab v.speed,Z ab v.dive,Z ab v.use.f0,Z ab v.use.f1,Z ab v.drift.f0,Z ab v.drift.f1,Z ab v.reserve] 29)).alloc (.cells #[Z ab x.f0.f0,Z ab x.f0.f1,Z ab x.f1.f0,Z ab x.f1.f1] 31)).alloc (.cells #[Z ab p.f0.f0.f0,Z ab p.f0.f0.f1,Z ab p.f0.f1.f0,Z ab p.f0.f1.f1,Z ab p.f1,Z ab p.f2] 81)) (w.heap.size+1+1) #[Z ab x.f0.f0,Z ab x.f0.f1,Z ab x.f1.f0,Z ab x.f1.f1] 31:=(aa aby _)
 have m10:aZ ((((w.alloc (.cells #[Z ab s.nx,Z ab s.ny,Z ab s.cell,Z ab s.slot,Z ab s.slots,Z ab s.layers,Z ab s.most,.slice A7 s.shores.length c7,.slice A8 s.currents.length c8] 25)).alloc (.cells #[Z ab v.speed,Z ab v.dive,Z ab v.use.f0,Z ab v.use.f1,Z ab v.drift.f0,Z ab v.drift.f1,Z ab v.reserve] 29)).alloc (.cells #[Z ab x.f0.f0,Z ab x.f0.f1,Z ab x.f1.f0,Z ab x.f1.f1] 31)).alloc (.cells #[Z ab p.f0.f0.f0,Z ab p.f0.f0.f1,Z ab p.f0.f1.f0,Z ab p.f0.f1.f1,Z ab p.f1,Z ab p.f2] 81)) (w.heap.size+1+1+1) #[Z ab p.f0.f0.f0,Z ab p.f0.f0.f1,Z ab p.f0.f1.f0,Z ab p.f0.f1.f1,Z ab p.f1,Z ab p.f2] 81:=(by have h_:=bB (((w.alloc (.cells #[Z ab s.nx,Z ab s.ny,Z ab s.cell,Z ab s.slot,Z ab s.slots,Z ab s.layers,Z ab s.most,.slice A7 s.shores.length c7,.slice A8 s.currents.length c8] 25)).alloc (.cells #[Z ab v.speed,Z ab v.dive,Z ab v.use.f0,Z ab v.use.f1,Z ab v.drift.f0,Z ab v.drift.f1,Z ab v.reserve] 29)).alloc (.cells #[Z ab x.f0.f0,Z ab x.f0.f1,Z ab x.f1.f0,Z ab x.f1.f1] 31)) (.cells #[Z ab p.f0.f0.f0,Z ab p.f0.f0.f1,Z ab p.f0.f1.f0,Z ab p.f0.f1.f1,Z ab p.f1,Z ab p.f2] 81);first|exact h_|(simp only [World.size_alloc] at h_;exact h_))
 have mB:Below w.heap.size w ((((w.alloc (.cells #[Z ab s.nx,Z ab s.ny,Z ab s.cell,Z ab s.slot,Z ab s.slots,Z ab s.layers,Z ab s.most,.slice A7 s.shores.length c7,.slice A8 s.currents.length c8] 25)).alloc (.cells #[Z ab v.speed,Z ab v.dive,Z ab v.use.f0,Z ab v.use.f1,Z ab v.drift.f0,Z ab v.drift.f1,Z ab v.reserve] 29)).alloc (.cells #[Z ab x.f0.f0,Z ab x.f0.f1,Z ab x.f1.f0,Z ab x.f1.f1] 31)).alloc (.cells #[Z ab p.f0.f0.f0,Z ab p.f0.f0.f1,Z ab p.f0.f1.f0,Z ab p.f0.f1.f1,Z ab p.f1,Z ab p.f2] 81)):=(ai (ai (ai (ai (Below.refl w.heap.size w) _) _) _) _)
 have dU:w.heap.size≤w.heap.size:=Nat.le_refl _
 generalize jq:((((w.alloc (.cells #[Z ab s.nx,Z ab s.ny,Z ab s.cell,Z ab s.slot,Z ab s.slots,Z ab s.layers,Z ab s.most,.slice A7 s.shores.length c7,.slice A8 s.currents.length c8] 25)).alloc (.cells #[Z ab v.speed,Z ab v.dive,Z ab v.use.f0,Z ab v.use.f1,Z ab v.drift.f0,Z ab v.drift.f1,Z ab v.reserve] 29)).alloc (.cells #[Z ab x.f0.f0,Z ab x.f0.f1,Z ab x.f1.f0,Z ab x.f1.f1] 31)).alloc (.cells #[Z ab p.f0.f0.f0,Z ab p.f0.f0.f1,Z ab p.f0.f1.f0,Z ab p.f0.f1.f1,Z ab p.f1,Z ab p.f2] 81)) = W1 at m6 m7 m8 m10 mB ⊢
 clear jq
 generalize Ye:w.heap.size = g6 at m6 m7 m8 m10 ⊢
 have RB:w.heap.size≤g6:=by omega
 generalize hg7:g6+1 = g7 at m7 m8 m10 ⊢
 have ed:g6≠g7:=by omega
 have TG:g7≠g6:=ed.symm
 have hG7:w.heap.size≤g7:=by omega
 generalize hg8:g7+1 = g8 at m8 m10 ⊢
 have CJ:g6≠g8:=by omega
 have oq:g7≠g8:=by omega
 have ahG:g8≠g6:=CJ.symm
 have iY:g8≠g7:=oq.symm
 have Sa:w.heap.size≤g8:=by omega
 generalize Tq:g8+1 = g10 at m10 ⊢
 have jA:g6≠g10:=by omega
 have zN:g7≠g10:=by omega
 have TK:g8≠g10:=by omega
 have LM:g10≠g6:=jA.symm
 have TI:g10≠g7:=zN.symm
 have akJ:g10≠g8:=TK.symm
 have lZ:w.heap.size≤g10:=by omega
 clear dU
 try clear Tq
 try clear hg8
 try clear hg7
 try clear Ye
 have lC:w.heap.size≤W1.heap.size:=mB.size
 obtain ⟨zF,JM,JN,JO,apz,apA,apB,aCC,aCD⟩:=EW m6
 obtain ⟨zP,zQ,Co,Cq,Vl,Vm,Vn⟩:=vg m7
 obtain ⟨yz,F7,JW,JX⟩:=mH m8
 obtain ⟨uU,uV,uW,uX,Y4,Y5⟩:=Y6 m10
 go_wp2_with fail
 clear zF JM JN JO apz apA apB aCC aCD zP zQ Co Cq Vl Vm Vn yz F7 JW JX uU uV uW uX Y4 Y5
 have hcon:=J2 s v x t A7 A8 c7 c8 W1 h7 (Kd.bD Ry mB) h8 (Kd.bD JL mB)
 (with_reducible refine hcon.mono ?_)
 clear hcon
 rintro e W2 ⟨ptr,rfl,hb,hpt⟩
 replace m6:=af m6 hb
 replace m7:=af m7 hb
 replace m8:=af m8 hb
 replace m10:=af m10 hb
 replace mB:=aJ mB hb
 clear hb
 have mY:w.heap.size≤W2.heap.size:=mB.size
 generalize Sk:eB s v x t = E0 at*
 have HE0:=Lib.hid Sk
 clear Sk
 by_cases h0:E0 = 0
 case neg =>
  have HZ:=Lib.hid (HX.out.trans (if_pos h0))
  have hd1:(E0 == 0) = false:=beq_eq_false_iff_ne.2 h0
  have hd2:(E0 != 0) = true:=by rw [bne,hd1];rfl
  clear h0 hpt HX
  go_wp2
  go_ret2
  exact ⟨_,jD,Ut,mB⟩
 case pos =>
  have RS:=Lib.hid (HX.out.trans (if_neg (fun h=>h h0)))
  clear HX
  have hb0:=HBG.out.symm.trans h0
  obtain ⟨ht0,hp0⟩:=mg hb0
  obtain ⟨hbx,J3,P9⟩:=yB hp0
  obtain ⟨hSV,hVN⟩:=ve ht0
  rcases hpt with ⟨_,g,rfl,hg,hT⟩|⟨hbad,_⟩
  case inr=>exact absurd ht0 hbad
  case inl =>
   subst h0
   clear hb0 ht0 hp0 HBG
   obtain ⟨uU,uV,uW,uX,Y4,Y5⟩:=Y6 m10
   go_wp2_with fail
   clear uU uV uW uX Y4 Y5
   skip
   have hcon:=ib.calls 4 p.f0.f0.f0 p.f0.f0.f1 p.f0.f1.f0 p.f0.f1.f1 p.f1 p.f2 _ W2 (KD p)
   (with_reducible refine hcon.mono ?_)
   clear hcon
   rintro e W3 ⟨rfl,hb⟩
   replace hT:=hT.below hb
   replace m6:=af m6 hb
   replace m7:=af m7 hb
   replace m8:=af m8 hb
   replace m10:=af m10 hb
   replace mB:=aJ mB hb
   clear hb
   have uY:w.heap.size≤W3.heap.size:=mB.size
   cases hpk:sJ p with
   |false =>
    have HZ:=Lib.hid (RS.out.trans (if_pos hpk))
    clear hpk RS
    go_wp2
    go_ret2
    exact ⟨_,jD,Ut,mB⟩
   |true =>
    have YZ:=Lib.hid (RS.out.trans (if_neg (by rw [hpk];decide)))
    clear RS hpk
    by_cases hd:d < 1∨d > 64
    case pos =>
     have HZ:=Lib.hid (YZ.out.trans (if_pos hd))
     clear YZ
     by_cases hq:d < 1
     case pos =>
      clear hd
      go_wp2
      go_ret2
      exact ⟨_,jD,Ut,mB⟩
     case neg =>
      have hq2:d > 64:=by omega
      clear hd
      go_wp2
      go_ret2
      exact ⟨_,jD,Ut,mB⟩
    case neg =>
     have HX4:=Lib.hid (YZ.out.trans (if_neg hd))
     clear YZ
     have hq:¬ d < 1:=by omega
     have hq2:¬ d > 64:=by omega
     clear hd
     obtain ⟨m,rfl⟩:∃ m:Nat,d = m:=⟨d.toNat,by omega⟩
     rw [Int.toNat_natCast] at HX4
     obtain ⟨yz,F7,JW,JX⟩:=mH m8
     go_wp2_with fail
     clear yz F7 JW JX
     skip
     have hcon:=afU g s v x t m W3 hT hSV hVN hbx J3 P9 (by omega)
     (with_reducible refine hcon.mono ?_)
     clear hcon
     rintro e W5 ⟨Ur,rfl,HR,hb⟩
     have hlen:=SE s v m x t []
     rw [List.length_nil,Nat.zero_add] at hlen
     generalize iZ s v m x t [] = R at*
     replace HR:=Kd.jS HR mB.size
     replace m6:=af m6 hb
     replace m7:=af m7 hb
     replace m8:=af m8 hb
     replace m10:=af m10 hb
     replace mB:=aJ mB hb
     clear hb
     have E8:w.heap.size≤W5.heap.size:=mB.size
     obtain ⟨l,E1⟩:=R
     dsimp only at*
     by_cases h1:E1 = 0
     case neg =>
      have HZ:=Lib.hid (HX4.out.trans (if_pos h1))
      have hd1:(E1 == 0) = false:=beq_eq_false_iff_ne.2 h1
      have hd2:(E1 != 0) = true:=by rw [bne,hd1];rfl
      clear h1 HX4
      go_wp2
      go_ret2
      exact ⟨_,jD,Ut,mB⟩
     case pos =>
      have HX5:=Lib.hid (HX4.out.trans (if_neg (fun h=>h h1)))
      clear HX4
      subst h1
      obtain ⟨A_,c_,rfl,hc_,hC_⟩:=Kd.LJ HR
      obtain ⟨zP,zQ,Co,Cq,Vl,Vm,Vn⟩:=vg m7
      obtain ⟨uU,uV,uW,uX,Y4,Y5⟩:=Y6 m10
      go_wp2_with fail
      clear zP zQ Co Cq Vl Vm Vn uU uV uW uX Y4 Y5
      skip
      have hcon:=bK.calls 66 v.speed v.dive v.use.f0 v.use.f1 v.drift.f0 v.drift.f1 v.reserve t A_ c_ l p.f0.f0.f0 p.f0.f0.f1 p.f0.f1.f0 p.f0.f1.f1 p.f1 p.f2 _ W5 hC_ hc_ (af9 v p l t (by omega) hVN.dive J3 P9)
      (with_reducible refine hcon.mono ?_)
      clear hcon
      rintro e W6 ⟨rfl,hb⟩
      replace HR:=Kd.fZ HR hb
      replace m6:=af m6 hb
      replace m7:=af m7 hb
      replace m8:=af m8 hb
      replace m10:=af m10 hb
      replace mB:=aJ mB hb
      clear hb
      cases hf:GX v.dive p l t with
      |true =>
       have HZ:=Lib.hid (HX5.out.trans (if_pos hf))
       clear hf HX5
       go_wp2
       go_ret2
       exact ⟨_,jD,Ut,mB⟩
      |false =>
       have HZ:=Lib.hid (HX5.out.trans (if_neg (by rw [hf];decide)))
       clear hf HX5
       go_wp2
       go_ret2
       exact ⟨_,jD,by rw [HZ.out];exact HR,mB⟩
end Go.Proofs.Ytmhaiihjfgfaoaa.Gl
end
section
namespace Go.Proofs.Ytmhaiihjfgfaoaa.Pr
open Go.RowKit Go.Proofs.YtmhaiihjfgfaoaaW.PrintWords Go.Proofs.YtmhaiihjfgfaoaaW.PrintLast Go.Proofs.YtmhaiihjfgfaoaaW.PrintMore Go.Proofs.Ytmhaiihjfgfaoaa.Gl
set_option linter.unusedVariables false
def mO.f (ax:Int) (av:Int) (aH:Int) (aG:Int) (aQ:Int) (aN:Int) (aM:Int) (bn:List Bool) (aW:List (qW)) (bq:Int) (bz:Int) (bY:Int) (bX:Int) (dB:Int) (dC:Int) (dD:Int) (dh:Int) (di:Int) (dm:Int) (dn:Int) (a3:Int) (fA:Int) (fB:Int) (ahW:Int) (ahX:Int) (ahY:Int) (ahZ:Int) (a5:Int):Option ((List (cZ)) × Int):=some (vB ⟨ax,av,aH,aG,aQ,aN,aM,bn,aW⟩ ⟨bq,bz,⟨bY,bX⟩,⟨dB,dC⟩,dD⟩ ⟨⟨dh,di⟩,⟨dm,dn⟩⟩ a3 ⟨⟨⟨fA,fB⟩,⟨ahW,ahX⟩⟩,ahY,ahZ⟩ a5)
theorem mO.calls (ax:Int) (av:Int) (aH:Int) (aG:Int) (aQ:Int) (aN:Int) (aM:Int) (fJ:Option Addr) (fK:Nat) (bn:List Bool) (fU:Option Addr) (fM:Nat) (aW:List (qW)) (bq:Int) (bz:Int) (bY:Int) (bX:Int) (dB:Int) (dC:Int) (dD:Int) (dh:Int) (di:Int) (dm:Int) (dn:Int) (a3:Int) (fA:Int) (fB:Int) (ahW:Int) (ahX:Int) (ahY:Int) (ahZ:Int) (a5:Int) (r1:List (cZ)) (r2:Int) (w:World) (nP:Kd.C Kd.bool w fJ bn.length bn) (nQ:bn.length≤fK) (nR:Kd.C Cm w fU aW.length aW) (nS:aW.length≤fM) (h:mO.f ax av aH aG aQ aN aM bn aW bq bz bY bX dB dC dD dh di dm dn a3 fA fB ahW ahX ahY ahZ a5 = some (r1,r2)):
 Calls Try.prog 53 #[.agg #[Z ab ax,Z ab av,Z ab aH,Z ab aG,Z ab aQ,Z ab aN,Z ab aM,.slice fJ bn.length fK,.slice fU aW.length fM],.agg #[Z ab bq,Z ab bz,Z ab bY,Z ab bX,Z ab dB,Z ab dC,Z ab dD],.agg #[Z ab dh,Z ab di,Z ab dm,Z ab dn],Z ab a3,.agg #[Z ab fA,Z ab fB,Z ab ahW,Z ab ahX,Z ab ahY,Z ab ahZ],Z ab a5] w fun e w'=>∃ Ur:Value,e = .returned (.tuple #[Ur,Z ab r2])∧Kd.R Qe 31 w' w.heap.size (fun _=>True) Ur r1∧Below w.heap.size w w':=by
 have e_:=Option.some.inj h
 have q_:=aga ⟨ax,av,aH,aG,aQ,aN,aM,bn,aW⟩ ⟨bq,bz,⟨bY,bX⟩,⟨dB,dC⟩,dD⟩ ⟨⟨dh,di⟩,⟨dm,dn⟩⟩ a3 ⟨⟨⟨fA,fB⟩,⟨ahW,ahX⟩⟩,ahY,ahZ⟩ a5 fJ fU fK fM w nQ nP nS nR
 rw [e_] at q_
 exact q_
end Go.Proofs.Ytmhaiihjfgfaoaa.Pr
end
section
namespace Go.Proofs.Ytmhaiihjfgfaoaa.Pr
open Go.RowKit Go.Proofs.YtmhaiihjfgfaoaaW.PrintWords Go.Proofs.YtmhaiihjfgfaoaaW.PrintLast Go.Proofs.YtmhaiihjfgfaoaaW.PrintMore
attribute [local go_sem] dw dx dM dN dz
set_option linter.unusedVariables false
set_option linter.unusedSimpArgs false
def uO.f (ax:Int) (av:Int) (aH:Int) (aG:Int) (aQ:Int) (aN:Int) (aM:Int) (bq:Int) (bz:Int):Option (Int × Int):=if bq = 8 then (some (aQ,aN)) else (some (aH,aG))
set_option maxHeartbeats 8000000 in
set_option maxRecDepth 100000 in
theorem uO.calls (ax:Int) (av:Int) (aH:Int) (aG:Int) (aQ:Int) (aN:Int) (aM:Int) (bq:Int) (bz:Int) (r1:Int) (r2:Int) (w:World) (h:uO.f ax av aH aG aQ aN aM bq bz = some (r1,r2)):
 Calls Try.prog 109 #[.agg #[Z ab ax,Z ab av,Z ab aH,Z ab aG,Z ab aQ,Z ab aN,Z ab aM],.agg #[Z ab bq,Z ab bz]] w fun e w'=>e = .returned (.agg #[Z ab r1,Z ab r2])∧Below w.heap.size w w':=by
 have xX:=Try.underlying29
 have F5:=Try.underlying33
 have mE:=Try.underlying27
 have HB:=ag.mk (Below.refl w.heap.size w)
 have H:(if bq = 8 then (some (aQ,aN)) else (some (aH,aG))) = some (r1,r2):=h
 clear h
 by_cases c3:bq = 8
 ·rw [if_pos c3] at H
  have PY:(bq == 8) = true:=beq_iff_eq.mpr c3
  have Yu:(bq != 8) = false:=bne_eq_false_iff_eq.mpr c3
  clear c3
  simp only [Option.some.injEq,Prod.mk.injEq] at H
  obtain ⟨rfl,rfl⟩:=H
  go_enter Try.func109,Try.ntmps109
  go_wp2_with (first|((with_reducible refine aI (N:=2) rfl ?_);refine aC (by rfl) (N:=2) (by rfl) (cs:=#[Z ab ax,Z ab av,Z ab aH,Z ab aG,Z ab aQ,Z ab aN,Z ab aM]) (t:=29) gu ?_;intro asi hg w4 hbox hb;have qP:=ag.mk (hbox);have asj:=cB HB hg;have asl:=cB HB hg;replace HB:=cK HB hb;clear hb hbox hg)|((with_reducible refine aI (N:=3) rfl ?_);refine aC (by rfl) (N:=3) (by rfl) (cs:=#[Z ab bq,Z ab bz]) (t:=33) gu ?_;intro asn hg w5 hbox hb;have CP:=ag.mk (hbox);have aso:=cB HB hg;have asq:=cB HB hg;have KG:=l6 qP hg;have KH:=l9 qP hg;replace qP:=bJ qP hb;replace HB:=cK HB hb;clear hb hbox hg)|((with_reducible refine aI (N:=4) rfl ?_);refine aC (by rfl) (N:=4) (by rfl) (cs:=#[Z ab 0,Z ab 0]) (t:=27) gu ?_;intro ah0 hg w6 hbox hb;have Y7:=ag.mk (hbox);have asr:=cB HB hg;have ass:=cB HB hg;have KI:=l6 qP hg;have KJ:=l9 qP hg;have KL:=l6 CP hg;have KM:=l9 CP hg;replace qP:=bJ qP hb;replace CP:=bJ CP hb;replace HB:=cK HB hb;clear hb hbox hg;have aKi:=KH.out;have aKj:=KG.out;have arH:=KL.out;have arI:=KM.out;obtain ⟨Fv,Fw,Fx,Fy⟩:=iq CP.out;have ac9:=KI.out;have ada:=KJ.out;obtain ⟨uG,uH,zX,zY,Dw,Dx,Gf,uI,uJ,zZ,z8,Dy,Dz,Gg⟩:=iH qP.out;obtain ⟨vK,vL,vM,vN⟩:=iq Y7.out))
  refine bodyPost_ret (results_cell_row rfl _ _ ah0 27 #[Z ab aQ,Z ab aN] (0,0) _ rfl (by (with_reducible repeat (first|refine aA ?_ _|refine au ?_|refine aa ?_ _));refine az (cs:=#[Z ab aQ,Z ab 0]) ?_ 1 _ rfl;(with_reducible repeat (first|refine aA ?_ _|refine au ?_|refine aa ?_ _));refine az (cs:=#[Z ab 0,Z ab 0]) ?_ 0 _ rfl;(with_reducible repeat (first|refine aA ?_ _|refine au ?_|refine aa ?_ _));exact Y7.out) Try.underlying27 rfl aT) rfl ?_
  exact ⟨mf,eZ⟩
 ·rw [if_neg c3] at H
  have PY:(bq == 8) = false:=beq_eq_false_iff_ne.mpr c3
  have Yu:(bq != 8) = true:=bne_iff_ne.mpr c3
  simp only [Option.some.injEq,Prod.mk.injEq] at H
  obtain ⟨rfl,rfl⟩:=H
  go_enter Try.func109,Try.ntmps109
  go_wp2_with (first|((with_reducible refine aI (N:=2) rfl ?_);refine aC (by rfl) (N:=2) (by rfl) (cs:=#[Z ab ax,Z ab av,Z ab aH,Z ab aG,Z ab aQ,Z ab aN,Z ab aM]) (t:=29) gu ?_;intro asi hg Yq hbox hb;have qP:=ag.mk (hbox);have asj:=cB HB hg;have asl:=cB HB hg;replace HB:=cK HB hb;clear hb hbox hg)|((with_reducible refine aI (N:=3) rfl ?_);refine aC (by rfl) (N:=3) (by rfl) (cs:=#[Z ab bq,Z ab bz]) (t:=33) gu ?_;intro asn hg w14 hbox hb;have CP:=ag.mk (hbox);have aso:=cB HB hg;have asq:=cB HB hg;have KG:=l6 qP hg;have KH:=l9 qP hg;replace qP:=bJ qP hb;replace HB:=cK HB hb;clear hb hbox hg)|((with_reducible refine aI (N:=4) rfl ?_);refine aC (by rfl) (N:=4) (by rfl) (cs:=#[Z ab 0,Z ab 0]) (t:=27) gu ?_;intro ah0 hg w15 hbox hb;have Y7:=ag.mk (hbox);have asr:=cB HB hg;have ass:=cB HB hg;have KI:=l6 qP hg;have KJ:=l9 qP hg;have KL:=l6 CP hg;have KM:=l9 CP hg;replace qP:=bJ qP hb;replace CP:=bJ CP hb;replace HB:=cK HB hb;clear hb hbox hg;have ahq:=KH.out;have ahr:=KG.out;have aGQ:=KL.out;have aGR:=KM.out;obtain ⟨Uz,UA,UB,UC⟩:=iq CP.out;have an5:=KI.out;have an6:=KJ.out;obtain ⟨Ml,Mm,Mo,Mq,U2,U3,alA,Mr,Ms,Mt,Mv,U4,U5,alB⟩:=iH qP.out;obtain ⟨Aa,Ab,Ac,Ad⟩:=iq Y7.out))
  refine bodyPost_ret (results_cell_row rfl _ _ ah0 27 #[Z ab aH,Z ab aG] (0,0) _ rfl (by (with_reducible repeat (first|refine aA ?_ _|refine au ?_|refine aa ?_ _));refine az (cs:=#[Z ab aH,Z ab 0]) ?_ 1 _ rfl;(with_reducible repeat (first|refine aA ?_ _|refine au ?_|refine aa ?_ _));refine az (cs:=#[Z ab 0,Z ab 0]) ?_ 0 _ rfl;(with_reducible repeat (first|refine aA ?_ _|refine au ?_|refine aa ?_ _));exact Y7.out) Try.underlying27 rfl aT) rfl ?_
  exact ⟨mf,eZ⟩
end Go.Proofs.Ytmhaiihjfgfaoaa.Pr
end
section
namespace Go.Proofs.Ytmhaiihjfgfaoaa.Gl
open Go.RowKit Go.Shelf Go.Proofs.YtmhaiihjfgfaoaaW.PrintWords Go.Proofs.YtmhaiihjfgfaoaaW.PrintLast Go.Proofs.YtmhaiihjfgfaoaaW.PrintMore Go.Proofs.Ytmhaiihjfgfaoaa.Pr Go.Proofs.YtmhaiihjfgfaoaaW.Round
set_option linter.unusedVariables false
set_option linter.unusedSimpArgs false
attribute [local go_sem] dw dx dM dN dz
def gq (v:iw) (c:eQ):gm:=if c.f0 = 8 then v.drift else v.use
theorem SF (v:iw) (c:eQ) (w:World):Calls Try.prog 109 #[.agg #[Z ab v.speed,Z ab v.dive,Z ab v.use.f0,Z ab v.use.f1,Z ab v.drift.f0,Z ab v.drift.f1,Z ab v.reserve],.agg #[Z ab c.f0,Z ab c.f1]] w (oo (.agg #[Z ab (gq v c).f0,Z ab (gq v c).f1]) w) :=
 uO.calls _ _ _ _ _ _ _ _ _ (gq v c).f0 (gq v c).f1 w (by unfold uO.f gq;split <;> rfl)
def Y8 (v:iw):List eQ→gm→Int→List gm→List gm × Int × Int
 |[],_,n,out=>(out,n,0)
 |c :: l,e,n,out=>if e.f0 - (gq v c).f1 < v.reserve then ([],n,19) else Y8 v l ⟨e.f0 - (gq v c).f1,e.f1 - (gq v c).f0⟩ (n+1) (out++[⟨e.f0 - (gq v c).f1,e.f1 - (gq v c).f0⟩])
def apI (R:List gm × Int × Int) (w:World) (e:Ending) (w':World):Prop:=∃ Ur:Value,e = .returned (.tuple #[Ur,Z ab R.2.1,Z ab R.2.2])∧Kd.R k27 27 w' w.heap.size (fun _=>True) Ur R.1∧Below w.heap.size w w'
theorem GY {v:iw} (h:uq v = true) (c:eQ):0≤(gq v c).f0∧(gq v c).f0≤(gq v c).f1∧(gq v c).f1≤1073741824:=by
 unfold uq at h
 simp only [Bool.and_eq_true,Gc] at h
 unfold gq
 split
 ·omega
 ·omega
theorem Y9 {v:iw} (h:uq v = true):0≤v.reserve∧v.reserve≤1073741824:=by
 unfold uq at h
 simp only [Bool.and_eq_true,dR] at h
 exact h.2
set_option maxRecDepth 100000 in
set_option maxHeartbeats 8000000 in
theorem abN (v:iw) (e:gm) (A:Option Addr) (c:Nat) (l:List eQ) (w:World) (hv:uq v = true) (he:ou e.f0 e.f1 0 1073741824 = true) (hC:Kd.C TP w A l.length l) (hc:l.length≤c) (hl:l.length≤64):
 Calls Try.prog 85 #[.agg #[Z ab v.speed,Z ab v.dive,Z ab v.use.f0,Z ab v.use.f1,Z ab v.drift.f0,Z ab v.drift.f1,Z ab v.reserve],.agg #[Z ab e.f0,Z ab e.f1],.slice A l.length c] w (apI (Y8 v l e 0 []) w):=by
 have F5:=Try.underlying33
 have mE:=Try.underlying27
 have xX:=Try.underlying29
 have he':=Gc.1 he
 have hres:=Y9 hv
 have HV:=Lib.hid hv
 clear hv he
 go_enter Try.func85,Try.ntmps85
 go_wp2_with fail
 have m3:aZ ((w.alloc (.cells #[Z ab v.speed,Z ab v.dive,Z ab v.use.f0,Z ab v.use.f1,Z ab v.drift.f0,Z ab v.drift.f1,Z ab v.reserve] 29)).alloc (.cells #[Z ab e.f0,Z ab e.f1] 27)) (w.heap.size) #[Z ab v.speed,Z ab v.dive,Z ab v.use.f0,Z ab v.use.f1,Z ab v.drift.f0,Z ab v.drift.f1,Z ab v.reserve] 29:=(aa (by have h_:=bB w (.cells #[Z ab v.speed,Z ab v.dive,Z ab v.use.f0,Z ab v.use.f1,Z ab v.drift.f0,Z ab v.drift.f1,Z ab v.reserve] 29);first|exact h_|(simp only [World.size_alloc] at h_;exact h_)) _)
 have m4:aZ ((w.alloc (.cells #[Z ab v.speed,Z ab v.dive,Z ab v.use.f0,Z ab v.use.f1,Z ab v.drift.f0,Z ab v.drift.f1,Z ab v.reserve] 29)).alloc (.cells #[Z ab e.f0,Z ab e.f1] 27)) (w.heap.size+1) #[Z ab e.f0,Z ab e.f1] 27:=(by have h_:=bB (w.alloc (.cells #[Z ab v.speed,Z ab v.dive,Z ab v.use.f0,Z ab v.use.f1,Z ab v.drift.f0,Z ab v.drift.f1,Z ab v.reserve] 29)) (.cells #[Z ab e.f0,Z ab e.f1] 27);first|exact h_|(simp only [World.size_alloc] at h_;exact h_))
 have mB:Below w.heap.size w ((w.alloc (.cells #[Z ab v.speed,Z ab v.dive,Z ab v.use.f0,Z ab v.use.f1,Z ab v.drift.f0,Z ab v.drift.f1,Z ab v.reserve] 29)).alloc (.cells #[Z ab e.f0,Z ab e.f1] 27)):=(ai (ai (Below.refl w.heap.size w) _) _)
 have dU:w.heap.size≤w.heap.size:=Nat.le_refl _
 generalize jq:((w.alloc (.cells #[Z ab v.speed,Z ab v.dive,Z ab v.use.f0,Z ab v.use.f1,Z ab v.drift.f0,Z ab v.drift.f1,Z ab v.reserve] 29)).alloc (.cells #[Z ab e.f0,Z ab e.f1] 27)) = W1 at m3 m4 mB ⊢
 clear jq
 generalize hg3:w.heap.size = g3 at m3 m4 ⊢
 have hG3:w.heap.size≤g3:=by omega
 generalize hg4:g3+1 = g4 at m4 ⊢
 have Pz:g3≠g4:=by omega
 have aoP:g4≠g3:=Pz.symm
 have hG4:w.heap.size≤g4:=by omega
 clear dU
 try clear hg4
 try clear hg3
 have lC:w.heap.size≤W1.heap.size:=mB.size
 go_wp2
 go_loopw [9,15] (fun o i wr=>∃ (k:Nat) (v_:Value) (E:gm) (out:List gm),v_ = o∧i = Z ab k∧k≤l.length∧Hid (Y8 v l e 0 [] = Y8 v (l.drop k) E k out)∧Hid (out.length = k∧0≤E.f0∧E.f0≤E.f1∧E.f1≤1073741824)∧aZ wr g3 #[Z ab v.speed,Z ab v.dive,Z ab v.use.f0,Z ab v.use.f1,Z ab v.drift.f0,Z ab v.drift.f1,Z ab v.reserve] 29∧aZ wr g4 #[Z ab E.f0,Z ab E.f1] 27∧Kd.R k27 27 wr w.heap.size (fun q=>q≠g4) v_ out∧Below w.heap.size w wr) (fun _ i _=>l.length - (intOf i).toNat)
 case atStart=>exact ⟨0,_,e,[],rfl,rfl,Nat.zero_le _,Lib.hid rfl,Lib.hid ⟨rfl,by omega,by omega,by omega⟩,m3,m4,Kd.R4 _ _ _ _ _,mB⟩
 case round =>
  clear m3 m4 mB he'
  obtain ⟨k,v_,E,out,rfl,rfl,hk,HR,HQ,m3,m4,HO,mB⟩:=hrel
  have adB:w.heap.size≤wr.heap.size:=mB.size
  by_cases hlt:k < l.length
  case neg =>
   obtain rfl:k = l.length:=by omega
   have HE:=HR.out
   rw [List.drop_length] at HE
   have HE2:Hid (Y8 v l e 0 [] = (out,(l.length:Int),0)):=Lib.hid HE
   clear HE HR HQ
   go_wp2
   go_ret3
   exact ⟨_,by rw [HE2.out];rfl,by rw [HE2.out];exact Kd.lg HO (fun _ _=>trivial),mB⟩
  case pos =>
   obtain ⟨ad_,e_,hx0,hx1⟩:=Ci hC k (by omega) (by omega)
   cases e_
   simp only [Int.toNat_natCast] at hx0 hx1
   replace hx0:=(mB.cell (World.block_lt_of_cell? w _ hx0)).trans hx0
   replace hx1:=(mB.cell (World.block_lt_of_cell? w _ hx1)).trans hx1
   have hdr:l.drop k = iO l (k:Int) :: l.drop (k+1):=by rw [List.drop_eq_getElem_cons hlt];simp [iO,List.getD_eq_getElem?_getD,hlt]
   generalize iO l (k:Int) = d at*
   have hus:=GY HV.out d
   have HR2:Hid (Y8 v l e 0 [] = if E.f0 - (gq v d).f1 < v.reserve then ([],(k:Int),19) else Y8 v (l.drop (k+1)) ⟨E.f0 - (gq v d).f1,E.f1 - (gq v d).f0⟩ ((k:Int)+1) (out++[⟨E.f0 - (gq v d).f1,E.f1 - (gq v d).f0⟩])):=Lib.hid (by rw [HR.out,hdr];rfl)
   clear HR hdr
   have kT:=fun W=>SF v d W
   generalize gq v d = x at*
   obtain ⟨hol,hE0,hE1,hE2⟩:=HQ.out
   clear HQ
   have hw0:wrap64 (E.f0 - x.f1) = E.f0 - x.f1:=by unfold wrap64;omega
   have hw1:wrap64 (E.f1 - x.f0) = E.f1 - x.f0:=by unfold wrap64;omega
   have HQ1:Hid (out.length = k∧0≤E.f0∧E.f0≤E.f1∧E.f1≤1073741824∧0≤x.f0∧x.f0≤x.f1∧x.f1≤1073741824∧wrap64 (E.f0 - x.f1) = E.f0 - x.f1∧wrap64 (E.f1 - x.f0) = E.f1 - x.f0):=Lib.hid ⟨hol,hE0,hE1,hE2,hus.1,hus.2.1,hus.2.2,hw0,hw1⟩
   clear hol hE0 hE1 hE2 hus hw0 hw1
   have YE:∀ o_,(wr.alloc o_).cell? ⟨g3,0,none⟩ = some (Z ab v.speed):=fun o_=>(ae (aa m3 o_) 0).trans rfl
   have YF:∀ o_,(wr.alloc o_).cell? ⟨g3,1,none⟩ = some (Z ab v.dive):=fun o_=>(ae (aa m3 o_) 1).trans rfl
   have YG:∀ o_,(wr.alloc o_).cell? ⟨g3,2,none⟩ = some (Z ab v.use.f0):=fun o_=>(ae (aa m3 o_) 2).trans rfl
   have YH:∀ o_,(wr.alloc o_).cell? ⟨g3,3,none⟩ = some (Z ab v.use.f1):=fun o_=>(ae (aa m3 o_) 3).trans rfl
   have YI:∀ o_,(wr.alloc o_).cell? ⟨g3,4,none⟩ = some (Z ab v.drift.f0):=fun o_=>(ae (aa m3 o_) 4).trans rfl
   have YJ:∀ o_,(wr.alloc o_).cell? ⟨g3,5,none⟩ = some (Z ab v.drift.f1):=fun o_=>(ae (aa m3 o_) 5).trans rfl
   have YK:∀ o_,(wr.alloc o_).cell? ⟨g3,6,none⟩ = some (Z ab v.reserve):=fun o_=>(ae (aa m3 o_) 6).trans rfl
   go_wp2_with fail
   clear YE YF YG YH YI YJ YK
   clear hx0 hx1
   replace HO:=Kd.fZ HO (ai (Below.refl wr.heap.size wr) (.cells #[Z ab d.f0,Z ab d.f1] 33))
   have apJ:=aD m3
   have PO:=aD m4
   have m11:aZ (wr.alloc (.cells #[Z ab d.f0,Z ab d.f1] 33)) (wr.heap.size) #[Z ab d.f0,Z ab d.f1] 33:=arB
   replace m3:aZ (wr.alloc (.cells #[Z ab d.f0,Z ab d.f1] 33)) g3 #[Z ab v.speed,Z ab v.dive,Z ab v.use.f0,Z ab v.use.f1,Z ab v.drift.f0,Z ab v.drift.f1,Z ab v.reserve] 29:=(aa m3 _)
   replace m4:aZ (wr.alloc (.cells #[Z ab d.f0,Z ab d.f1] 33)) g4 #[Z ab E.f0,Z ab E.f1] 27:=(aa m4 _)
   replace mB:Below w.heap.size w (wr.alloc (.cells #[Z ab d.f0,Z ab d.f1] 33)):=(ai mB _)
   have dU:w.heap.size≤wr.heap.size:=adB
   generalize jq:(wr.alloc (.cells #[Z ab d.f0,Z ab d.f1] 33)) = W2 at m3 m4 m11 mB HO ⊢
   clear jq
   generalize Uu:wr.heap.size = g11 at m11 ⊢
   have alC:g3≠g11:=by omega
   have L8:g4≠g11:=by omega
   have awQ:g11≠g3:=alC.symm
   have adE:g11≠g4:=L8.symm
   have PU:w.heap.size≤g11:=by omega
   clear dU apJ PO
   try clear Uu
   have mY:w.heap.size≤W2.heap.size:=mB.size
   have hcon:=kT W2
   clear kT
   (with_reducible refine hcon.mono ?_)
   clear hcon
   rintro _ W3 ⟨rfl,hb⟩
   replace HO:=Kd.fZ HO hb
   replace m3:=af m3 hb
   replace m4:=af m4 hb
   replace m11:=af m11 hb
   replace mB:=aJ mB hb
   clear hb
   have uY:w.heap.size≤W3.heap.size:=mB.size
   go_wp2
   have hlt3:some W3.heap.size≠v_.ownBlock:=fun h=>by have:=Kd.aqM HO _ h.symm;omega
   replace HO:=Kd.fZ HO (ai (Below.refl W3.heap.size W3) (.cells #[Z ab x.f0,Z ab x.f1] 27))
   have apJ:=aD m3
   have PO:=aD m4
   have qI:=aD m11
   have m12:aZ (W3.alloc (.cells #[Z ab x.f0,Z ab x.f1] 27)) (W3.heap.size) #[Z ab x.f0,Z ab x.f1] 27:=(by have h_:=bB W3 (.cells #[Z ab x.f0,Z ab x.f1] 27);first|exact h_|(simp only [World.size_alloc] at h_;exact h_))
   replace m3:aZ (W3.alloc (.cells #[Z ab x.f0,Z ab x.f1] 27)) g3 #[Z ab v.speed,Z ab v.dive,Z ab v.use.f0,Z ab v.use.f1,Z ab v.drift.f0,Z ab v.drift.f1,Z ab v.reserve] 29:=(aa m3 _)
   replace m4:aZ (W3.alloc (.cells #[Z ab x.f0,Z ab x.f1] 27)) g4 #[Z ab E.f0,Z ab E.f1] 27:=(aa m4 _)
   replace m11:aZ (W3.alloc (.cells #[Z ab x.f0,Z ab x.f1] 27)) g11 #[Z ab d.f0,Z ab d.f1] 33:=(aa m11 _)
   replace mB:Below w.heap.size w (W3.alloc (.cells #[Z ab x.f0,Z ab x.f1] 27)):=(ai mB _)
   have dU:w.heap.size≤W3.heap.size:=uY
   generalize jq:(W3.alloc (.cells #[Z ab x.f0,Z ab x.f1] 27)) = W4 at m3 m4 m11 m12 mB HO ⊢
   clear jq
   generalize agN:W3.heap.size = g12 at m12 hlt3 ⊢
   have alD:g3≠g12:=by omega
   have alE:g4≠g12:=by omega
   have lD:g11≠g12:=by omega
   have awR:g12≠g3:=alD.symm
   have ad6:g12≠g4:=alE.symm
   have Za:g12≠g11:=lD.symm
   have Fp:w.heap.size≤g12:=by omega
   clear dU apJ PO qI
   try clear agN
   have E5:w.heap.size≤W4.heap.size:=mB.size
   replace m3:=au m3
   replace m4:=au m4
   replace m11:=au m11
   replace m12:=au m12
   replace mB:=bf mB
   replace HO:=Kd.fZ HO (bf (Below.refl W4.heap.size W4))
   refine lh (n:=14) (S:=fun w'=>w'.cell? ⟨g12,0,none⟩ = some (Z ab x.f0)∧w'.cell? ⟨g12,1,none⟩ = some (Z ab x.f1)∧w'.cell? ⟨g4,1,none⟩ = some (Z ab E.f1)) (ds:=[13]) #[al,al,al,al,al,al,al,al,al,al,al,al,al,al] aT rfl rfl ⟨((ae m12 0).trans rfl),((ae m12 1).trans rfl),((ae m4 1).trans rfl)⟩ (fun hHeld=>?_)
   generalize hWd:World.drew _ = Wx at*
   clear hWd
   refine dG (i:=0) (N:=some 23) aT ?_
   refine dG (i:=2) (N:=some 25) aT ?_
   refine dG (i:=5) (N:=some 28) aT ?_
   refine dG (i:=7) (N:=some 30) aT ?_
   refine iy (i:=3) (N:=some 26) aT hHeld ?_
   refine iy (i:=6) (N:=some 29) aT hHeld ?_
   refine iy (i:=8) (N:=some 31) aT hHeld ?_
   refine dG (i:=9) (N:=some 32) aT ?_
   refine jC (i:=1) (N:=some 24) #[ac,ac,ac,ac,al,ac,ac,ac,ac,ac,al,al,al,al] rfl rfl aT (by decide) (fun K hK=>?_)
   have zM:=(ae m4 0).trans rfl
   refine zL (w1:=?_) (v:=?_) (by rfl) rfl ?_ ?_
   rotate_left 2
   ·go_simp
    constructor
    ·rfl
    ·rfl
   clear zM
   refine hK.out _ _ ⟨((ae m12 0).trans rfl),((ae m12 1).trans rfl),((ae m4 1).trans rfl)⟩ (fun hHeld=>?_)
   clear hK K
   refine dY ao3 ?_
   refine dG (i:=4) (N:=some 27) aT ?_
   refine dG (i:=10) (N:=some 33) aT ?_
   refine jC (i:=11) (N:=none) #[ac,ac,ac,ac,ac,ac,ac,ac,ac,ac,ac,ac,al,al] rfl rfl aT (by decide) (fun K hK=>?_)
   have Cb:=aK m4 0
   have zM:=(ae m4 0).trans rfl
   refine qp (w1:=?_) (by rfl) rfl ?_ ?_
   rotate_left
   ·go_simp
    rfl
   clear Cb zM
   refine hK.out _ _ ⟨((ae (ah (p:=⟨g4,0,none⟩) m12 ad6 _) 0).trans rfl),((ae (ah (p:=⟨g4,0,none⟩) m12 ad6 _) 1).trans rfl),((ae (az m4 0 (Z ab (wrap64 (E.f0 - x.f1))) rfl) 1).trans rfl)⟩ (fun hHeld=>?_)
   clear hK K
   refine dG (i:=12) (N:=some 34) aT ?_
   refine yt (i:=13) (N:=none) #[ac,ac,ac,ac,ac,ac,ac,ac,ac,ac,ac,ac,ac,ac] rfl rfl aT (by decide) (fun K hK=>?_)
   have FQ:=(az m4 0 (Z ab (wrap64 (E.f0 - x.f1))) rfl)
   have Fs:=aK FQ 1
   have Fu:=(ae FQ 1).trans rfl
   refine qp (w1:=?_) (by rfl) rfl ?_ ?_
   rotate_left
   ·go_simp
    rfl
   clear Fs Fu FQ
   refine hK.out _ _ ?_
   clear hK K
   refine ma aT ?_
   have n4:aZ ((Wx.setCell ⟨g4,0,none⟩ (Z ab (wrap64 (E.f0 - x.f1)))).setCell ⟨g4,1,none⟩ (Z ab (wrap64 (E.f1 - x.f0)))) g4 #[Z ab (wrap64 (E.f0 - x.f1)),Z ab (wrap64 (E.f1 - x.f0))] 27:=(az (az m4 0 _ rfl) 1 _ rfl)
   have n3:aZ ((Wx.setCell ⟨g4,0,none⟩ (Z ab (wrap64 (E.f0 - x.f1)))).setCell ⟨g4,1,none⟩ (Z ab (wrap64 (E.f1 - x.f0)))) g3 #[Z ab v.speed,Z ab v.dive,Z ab v.use.f0,Z ab v.use.f1,Z ab v.drift.f0,Z ab v.drift.f1,Z ab v.reserve] 29:=(ah (p:=⟨g4,1,none⟩) (ah (p:=⟨g4,0,none⟩) m3 Pz _) Pz _)
   have nB:Below w.heap.size w ((Wx.setCell ⟨g4,0,none⟩ (Z ab (wrap64 (E.f0 - x.f1)))).setCell ⟨g4,1,none⟩ (Z ab (wrap64 (E.f1 - x.f0)))):=(Below.setCell (p:=⟨g4,1,none⟩) (Below.setCell (p:=⟨g4,0,none⟩) mB hG4 _) hG4 _)
   have nO:Kd.R k27 27 ((Wx.setCell ⟨g4,0,none⟩ (Z ab (wrap64 (E.f0 - x.f1)))).setCell ⟨g4,1,none⟩ (Z ab (wrap64 (E.f1 - x.f0)))) w.heap.size (fun q=>q≠g4) v_ out:=(Kd.bT (p:=⟨g4,1,none⟩) (Kd.bT (p:=⟨g4,0,none⟩) HO (fun _ hk=>hk) _) (fun _ hk=>hk) _)
   clear m3 m4 m11 m12 mB HO
   try clear hHeld
   generalize jq:((Wx.setCell ⟨g4,0,none⟩ (Z ab (wrap64 (E.f0 - x.f1)))).setCell ⟨g4,1,none⟩ (Z ab (wrap64 (E.f1 - x.f0)))) = W5 at n3 n4 nB nO ⊢
   clear jq
   obtain ⟨hol,hE0,hE1,hE2,hx0,hx1,hx2,hw0,hw1⟩:=HQ1.out
   rw [hw0,hw1] at n4
   try rw [hw0,hw1]
   clear HQ1
   have E8:w.heap.size≤W5.heap.size:=nB.size
   have m3:=n3
   have m4:=n4
   have mB:=nB
   have HO:=nO
   clear n3 n4 nB nO
   obtain ⟨YE,YF,YG,YH,YI,YJ,YK⟩:=vg m3
   obtain ⟨RD,akF⟩:=F8 m4
   by_cases hE:E.f0 - x.f1 < v.reserve
   case pos =>
    have HZ:=Lib.hid (HR2.out.trans (if_pos hE))
    have hd1:decide (E.f0 - x.f1 < v.reserve) = true:=decide_eq_true hE
    clear hE HR2
    go_wp2
    go_ret3
    exact ⟨_,jD,Ut,mB⟩
   case neg =>
    have HR3:=Lib.hid (HR2.out.trans (if_neg hE))
    have hd1:decide (E.f0 - x.f1 < v.reserve) = false:=decide_eq_false hE
    have HQ2:Hid (out.length = k∧0≤E.f0 - x.f1∧E.f0 - x.f1≤E.f1 - x.f0∧E.f1 - x.f0≤1073741824):=Lib.hid ⟨hol,by omega,by omega,by omega⟩
    clear HR2 hol hE0 hE1 hE2 hx0 hx1 hx2 hw0 hw1 hE
    have hal:Hid ((out.length+1)*16≤140737488355328):=Lib.hid (by have:=HQ2.out.1;omega)
    have ak1:some g4≠v_.ownBlock:=fun h=>HO.1 g4 h.symm rfl
    have aCE:=Kd.afG HO m3 (by decide)
    go_wp2_with (first|((with_reducible refine uL (b:=.append) (xs:=#[.tmp 41,.tmp 43]) rfl ?_);(try (refine jI (by rfl) ?_;dsimp only));at_builtin;go_loud (refine Kd.FR k27 (w0:=w) w.heap.size rfl (.tmp 41) (.tmp 43) 66 27 (.agg #[Z ab 0,Z ab 0]) 16 rfl Try.underlying66 apK rfl (by decide) (by decide) v_ out ⟨E.f0 - x.f1,E.f1 - x.f0⟩ [Z ab (E.f0 - x.f1),Z ab (E.f1 - x.f0)] (fun q=>q≠g4) (fun _=>False) rfl (by first|rfl|(go_simp;done)|(go_simp;rfl)) ?aP (fun _ hk=>hk.elim) ?aF ?aO ?aB ?aS ?aL ?_);(case aP=>exact rY _ _ _ (⟨E.f0 - x.f1,E.f1 - x.f0⟩:gm));(case aF=>exact (fun q hq=>by have h_:=aD m4;omega));(case aO=>exact HO);(case aB=>exact mB);(case aS=>exact mB.size);(case aL=>exact hal.out);intro v1 w1 HO1 hB1 hgr hat))
    go_roundw
    case rel =>
     exact ⟨k+1,v1,(⟨E.f0 - x.f1,E.f1 - x.f0⟩:gm),out++[(⟨E.f0 - x.f1,E.f1 - x.f0⟩:gm)],rfl,by simp,by omega,Lib.hid HR3.out,Lib.hid ⟨by rw [List.length_append];have:=HQ2.out.1;simp;omega,HQ2.out.2⟩,dS m3 hgr aCE,dS m4 hgr ak1,HO1,hB1⟩
    case measure=>simp [intOf];omega
end Go.Proofs.Ytmhaiihjfgfaoaa.Gl
end
