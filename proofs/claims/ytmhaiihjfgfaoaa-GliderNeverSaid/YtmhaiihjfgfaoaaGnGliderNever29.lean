import Derived.Test.YtmhaiihjfgfaoaaGnGliderNever3
import Derived.Test.YtmhaiihjfgfaoaaGnGliderNever27
import Derived.Test.YtmhaiihjfgfaoaaGnGliderNever28
import Derived.Test.YtmhaiihjfgfaoaaGnGliderNever22
set_option linter.unusedSimpArgs false
set_option linter.unusedVariables false
section
namespace Go.Proofs.Ytmhaiihjfgfaoaa.Pure
open Go.RowKit Go.Proofs.YtmhaiihjfgfaoaaW.PrintWords Go.Proofs.YtmhaiihjfgfaoaaW.PrintLast Go.Proofs.Ytmhaiihjfgfaoaa.Pr Go.Proofs.Ytmhaiihjfgfaoaa.Good Go.Proofs.Ytmhaiihjfgfaoaa.Gl
namespace Nev
theorem works {k:Nat} (h:60≤k):aU.f k = some true:=JI aU.mono h aU.anH
theorem aaK {r b a:gm} (h:Su r a = 2) (hb:EU b.f0 b.f1 = true) (h0:b.f0≤r.f0) (h1:r.f1≤b.f1):1≤Su b a:=by
 unfold Su at h ⊢
 by_cases ho:(EU r.f0 r.f1 && EU a.f0 a.f1) = true
 case neg=>rw [if_neg ho] at h;cases h
 rw [if_pos ho] at h
 obtain ⟨o1,o2⟩:=Bool.and_eq_true_iff.1 ho
 by_cases hm:max r.f0 a.f0≤min r.f1 a.f1
 case neg=>rw [if_neg hm] at h;cases h
 rw [hb,o2,if_pos (show (true && true) = true from rfl),if_pos (by omega)]
 split <;> omega
theorem agw {r b a:cZ} (h:pE r a = 2) (hb:Sm b) (hs:jF r b):pE b a≠0:=by
 unfold Sm at hb
 obtain ⟨s0,s1,s2,s3⟩:=hs
 unfold pE at h ⊢
 have t0:=Mi r.f0 a.f0
 have t1:=Mi r.f1 a.f1
 have e0:=aaK (show Su r.f0 a.f0 = 2 by omega) (Di hb.1.2.1 hb.1.1 hb.1.2.2) s0 s1
 have e1:=aaK (show Su r.f1 a.f1 = 2 by omega) (Di hb.2.2.1 hb.2.1 hb.2.2.2) s2 s3
 omega
theorem ajY (a b:cZ):pE a b≤2:=by
 unfold pE
 have h0:=Mi a.f0 b.f0
 omega
theorem aaL (dive:Int) (p:xz):∀ (l Bs:List cZ) (t acc:Int),acc≠2→acc≤2→l.length≤Bs.length→(∀ b ∈ Bs,Sm b)→(∀ (i:Nat) (r b:cZ),l[i]? = some r→Bs[i]? = some b→jF r b)→GX dive p Bs t = false→BS dive p l t acc≠2
 |[],_,t,acc,h,_,_,_,_,_=>by unfold BS;exact h
 |r :: l,[],t,acc,h,_,hl,_,_,_=>by simp at hl
 |r :: l,b :: Bs,t,acc,h,h2,hl,hs,hsub,hf=>by
  unfold GX at hf
  obtain ⟨hf1,hf2⟩:=Bool.or_eq_false_iff.1 hf
  unfold BS
  have hsb:=hsub 0 r b rfl rfl
  have hle:=ajY r p.f0
  refine aaL dive p l Bs (t+dive) _ ?_ ?_ (by simpa using hl) (fun q hq=>hs q (List.mem_cons_of_mem _ hq)) (fun i r' b' h1 h3=>hsub (i+1) r' b' h1 h3) hf2
  ·by_cases hb:p.f1≤t+dive∧t+dive≤p.f2
   ·rw [if_pos hb]
    rw [dR.2 hb,Bool.true_and,decide_eq_false_iff_not,Decidable.not_not] at hf1
    have hn:pE r p.f0≠2:=fun h3=>agw h3 (hs b List.mem_cons_self) hsb hf1
    omega
   ·rw [if_neg hb];exact h
  ·split <;> omega
theorem agx {s:fT} {v:iw} {x:cZ} {t:Int} {p:xz} {Bs:List cZ} (hSV:BQ s) (hVN:uF v) (hx:gp x) (hc:aaG s v x t Bs) (hs:∀ b ∈ Bs,Sm b) (hf:GX v.dive p Bs t = false) (e:gm) (l:List eQ) (hl:l.length≤Bs.length):yP s v x t e l p≠0:=by
 intro h
 obtain ⟨p1,p2,p3,p4⟩:=acO h
 obtain ⟨_,hall⟩:=adz p3
 unfold yP at h
 rw [if_neg (fun q=>q p1),if_neg (by rw [p2];decide),if_neg (fun q=>q p3),if_neg (by rw [p4];decide)] at h
 by_cases h1:(nW s v l x t 0 []).2.2 = 0
 case neg=>rw [if_pos h1] at h;exact absurd h h1
 rw [if_neg (fun q=>q h1)] at h
 by_cases h2:(Y8 v l e 0 []).2.2 = 0
 case neg=>rw [if_pos h2] at h;exact absurd h h2
 rw [if_neg (fun q=>q h2)] at h
 have hr:=SY hSV hVN l Bs x x t 0 [] hall hx (jF.rfl' _) hc h1
 simp only [List.length_nil,Nat.zero_add] at hr
 have hle:=abO s v l x t 0 []
 simp only [List.length_nil,Nat.zero_add] at hle
 have:=aaL v.dive p (nW s v l x t 0 []).1 Bs t 0 (by decide) (by decide) (by omega) hs hr hf
 rw [if_pos this] at h
 cases h
end Nev
open Nev in
theorem GliderNever:∀ (x0:S25) (x1:S29) (x2:cZ) (x3:Int) (x4:gm) (x5:xz) (x6:Int) (x7:(List eQ)),W25 x0→W29 x1→W31 x2→(Lit.int .i64 x3).wf = true→W27 x4→W81 x5→(Lit.int .i64 x6).wf = true→((∀ y ∈ x7,W33 y)∧x7.length*Try.prog.bytesOf 33≤reachBytes)→∃ k,ak.f k (x0.f0) (x0.f1) (x0.f2) (x0.f3) (x0.f4) (x0.f5) (x0.f6) (x0.f7) (x0.f8) (x1.f0) (x1.f1) (x1.f2.f0) (x1.f2.f1) (x1.f3.f0) (x1.f3.f1) (x1.f4) (x2.f0.f0) (x2.f0.f1) (x2.f1.f0) (x2.f1.f1) x3 (x4.f0) (x4.f1) (x5.f0.f0.f0) (x5.f0.f0.f1) (x5.f0.f1.f0) (x5.f0.f1.f1) (x5.f1) (x5.f2) x6 x7 = some true:=by
 intro x0 x1 x2 x3 x4 x5 x6 x7 g0 g1 g2 g3 g4 g5 g6 g7
 let s:fT:=⟨x0.f0,x0.f1,x0.f2,x0.f3,x0.f4,x0.f5,x0.f6,x0.f7,x0.f8⟩
 let v:iw:=⟨x1.f0,x1.f1,⟨x1.f2.f0,x1.f2.f1⟩,⟨x1.f3.f0,x1.f3.f1⟩,x1.f4⟩
 have main:∀ K:Nat,4000≤K→ak.f (K+4) s.nx s.ny s.cell s.slot s.slots s.layers s.most s.shores s.currents v.speed v.dive v.use.f0 v.use.f1 v.drift.f0 v.drift.f1 v.reserve x2.f0.f0 x2.f0.f1 x2.f1.f0 x2.f1.f1 x3 x4.f0 x4.f1 x5.f0.f0.f0 x5.f0.f0.f1 x5.f0.f1.f0 x5.f0.f1.f1 x5.f1 x5.f2 x6 x7 = some true:=by
  intro K hK
  have ht:ak.j0 (K+4) x3 x6 x7 true s.nx s.ny s.cell s.slot s.slots s.layers s.most s.shores s.currents v.speed v.dive v.use.f0 v.use.f1 v.drift.f0 v.drift.f1 v.reserve x2.f0.f0 x2.f0.f1 x2.f1.f0 x2.f1.f1 x4.f0 x4.f1 x5.f0.f0.f0 x5.f0.f0.f1 x5.f0.f1.f0 x5.f0.f1.f1 x5.f1 x5.f2 = some true:=by
   rw [ak.j0,if_pos rfl,works (by omega)];rfl
  unfold ak.f
  rw [amz s v x2 x3 (K+4) (by omega),Option.bind_some]
  by_cases hval:amy s v x2 x3 = true
  case neg=>rw [if_neg hval,ht]
  rw [if_pos hval]
  by_cases h6:x6 > 4
  ·rw [if_pos h6,ht]
  rw [if_neg h6]
  by_cases h7:(x7.length:Int) > 4
  ·rw [if_pos h7,ht]
  rw [if_neg h7]
  by_cases h8:(x7.length:Int) = 0
  ·rw [show ((x7.length:Int) == 0) = true from beq_iff_eq.2 h8,ht]
  rw [show ((x7.length:Int) == 0) = false from beq_eq_false_iff_ne.2 h8,ak.j0,if_neg (by decide)]
  unfold amy at hval
  simp only [Bool.and_eq_true,Bool.not_eq_true',decide_eq_false_iff_not,decide_eq_true_eq] at hval
  obtain ⟨⟨⟨⟨⟨⟨v1,v2⟩,v3⟩,v4⟩,v5⟩,v6⟩,v7⟩:=hval
  have hse:rE s = 0:=by unfold rE;rw [if_pos v3]
  have hve:Fz v = 0:=by unfold Fz;rw [if_pos v4]
  have htr:il s v = 0:=by unfold il;rw [if_neg (fun q=>q hse)];exact hve
  have hbo:BR x2 = 0:=by unfold BR;rw [if_pos v5]
  have hpl:ow x2 x3 = 0:=by unfold ow;rw [if_neg (fun q=>q hbo),if_pos (dR.2 ⟨v6,v7⟩)]
  have hbg:eB s v x2 x3 = 0:=by
   have:eB s v x2 x3 = if il s v≠0 then il s v else ow x2 x3:=rfl
   rw [this,if_neg (fun q=>q htr)]
   exact hpl
  obtain ⟨hbx,_,_⟩:=yB hpl
  obtain ⟨hSV,hVN⟩:=ve htr
  have hcn:mO.f s.nx s.ny s.cell s.slot s.slots s.layers s.most s.shores s.currents v.speed v.dive v.use.f0 v.use.f1 v.drift.f0 v.drift.f1 v.reserve x2.f0.f0 x2.f0.f1 x2.f1.f0 x2.f1.f1 x3 x5.f0.f0.f0 x5.f0.f0.f1 x5.f0.f1.f0 x5.f0.f1.f1 x5.f1 x5.f2 x6 = some (vB s v x2 x3 x5 x6):=rfl
  rw [hcn,Option.bind_some]
  have herr:∀ N:List cZ × Int,N.1 = []→N.2≠0→(if N.2 = 0 then (if (N.1.length:Int) = x6 then ((gH.f s.nx s.ny s.cell s.slot s.slots s.layers s.most s.shores s.currents v.speed v.dive v.use.f0 v.use.f1 v.drift.f0 v.drift.f1 v.reserve x2.f0.f0 x2.f0.f1 x2.f1.f0 x2.f1.f1 x3 N.1).bind fun Df=>(ak.j1 (K+3) x3 x6 x7 (Df != 0) s.nx s.ny s.cell s.slot s.slots s.layers s.most s.shores s.currents v.speed v.dive v.use.f0 v.use.f1 v.drift.f0 v.drift.f1 v.reserve x2.f0.f0 x2.f0.f1 x2.f1.f0 x2.f1.f1 x4.f0 x4.f1 x5.f0.f0.f0 x5.f0.f0.f1 x5.f0.f1.f0 x5.f0.f1.f1 x5.f1 x5.f2)) else (ak.j1 (K+3) x3 x6 x7 true s.nx s.ny s.cell s.slot s.slots s.layers s.most s.shores s.currents v.speed v.dive v.use.f0 v.use.f1 v.drift.f0 v.drift.f1 v.reserve x2.f0.f0 x2.f0.f1 x2.f1.f0 x2.f1.f1 x4.f0 x4.f1 x5.f0.f0.f0 x5.f0.f0.f1 x5.f0.f1.f0 x5.f0.f1.f1 x5.f1 x5.f2)) else (if (N.1.length:Int) = 0 then ((aU.f (K+3)).bind fun Fe=>(some Fe)) else (some false))) = some true:=by
   intro N h1 h2
   rw [if_neg h2,h1,if_pos (show (([]:List cZ).length:Int) = 0 from rfl),works (by omega)];rfl
  by_cases hpk:sJ x5 = false
  ·refine herr _ ?_ ?_ <;> unfold vB <;> rw [if_neg (fun q=>q hbg),if_pos hpk] <;> decide
  by_cases hd:x6 < 1∨x6 > 64
  ·refine herr _ ?_ ?_ <;> unfold vB <;> rw [if_neg (fun q=>q hbg),if_neg hpk,if_pos hd] <;> decide
  by_cases hh:(iZ s v x6.toNat x2 x3 []).2 = 0
  case neg =>
   refine herr _ ?_ ?_
   ·unfold vB;rw [if_neg (fun q=>q hbg),if_neg hpk,if_neg hd,if_pos hh]
   ·unfold vB;rw [if_neg (fun q=>q hbg),if_neg hpk,if_neg hd,if_pos hh];exact hh
  by_cases hfe:GX v.dive x5 (iZ s v x6.toNat x2 x3 []).1 x3 = true
  ·refine herr _ ?_ ?_ <;> unfold vB <;> rw [if_neg (fun q=>q hbg),if_neg hpk,if_neg hd,if_neg (fun q=>q hh),if_pos hfe] <;> decide
  have hNX:vB s v x2 x3 x5 x6 = iZ s v x6.toNat x2 x3 []:=by
   unfold vB
   rw [if_neg (fun q=>q hbg),if_neg hpk,if_neg hd,if_neg (fun q=>q hh),if_neg hfe]
  rw [hNX]
  obtain ⟨Bs,e,hl,hc,hsm⟩:=Rn hSV hVN x6.toNat x2 x3 [] hbx hh
  rw [List.nil_append] at e
  have aE8:GX v.dive x5 Bs x3 = false:=by
   cases hq:GX v.dive x5 Bs x3 with
   |false=>rfl
   |true=>rw [e] at hfe;exact absurd hq hfe
  rw [if_pos hh,e,if_pos (show (Bs.length:Int) = x6 by omega)]
  have hcp:gH.f s.nx s.ny s.cell s.slot s.slots s.layers s.most s.shores s.currents v.speed v.dive v.use.f0 v.use.f1 v.drift.f0 v.drift.f1 v.reserve x2.f0.f0 x2.f0.f1 x2.f1.f0 x2.f1.f1 x3 Bs = some (CkX s v x2 x3 Bs):=rfl
  have hck:CkX s v x2 x3 Bs = 0:=by
   unfold CkX
   have hbe:vv Bs = 0:=by
    unfold vv
    rw [if_neg (by omega)]
    have:Bs.any (fun x=>!uK x) = false:=List.any_eq_false.2 (fun b hb=>by rw [(hsm b hb).uK];decide)
    rw [this];rfl
   rw [if_neg (fun q=>q hbg),if_neg (fun q=>q hbe)]
   exact aaI hSV hVN _ _ _ hbx hc hsm
  have hng:=fun l hl=>agx (p:=x5) hSV hVN hbx hc hsm aE8 x4 l hl
  rw [hcp,hck,Option.bind_some,show ((0:Int) != 0) = false from rfl,ak.j1,if_neg (by decide)]
  have hgo:ak.j2 (K+2) x3 x6 false s.nx s.ny s.cell s.slot s.slots s.layers s.most s.shores s.currents v.speed v.dive v.use.f0 v.use.f1 v.drift.f0 v.drift.f1 v.reserve x2.f0.f0 x2.f0.f1 x2.f1.f0 x2.f1.f1 x4.f0 x4.f1 x5.f0.f0.f0 x5.f0.f0.f1 x5.f0.f1.f0 x5.f0.f1.f1 x5.f1 x5.f2 = some true:=by
   rw [ak.j2,if_neg (by decide)]
   have hdeep:∃ b,gD.f s.nx s.ny s.cell s.slot s.slots s.layers s.most s.shores s.currents x6 = some b:=by
    unfold gD.f
    split
    ·exact ⟨_,rfl⟩
    ·exact ⟨_,rfl⟩
   obtain ⟨b,hb⟩:=hdeep
   rw [hb,Option.bind_some]
   have h3:∀ q:Bool,ak.j3 (K+1) x3 x6 q s.nx s.ny s.cell s.slot s.slots s.layers s.most s.shores s.currents v.speed v.dive v.use.f0 v.use.f1 v.drift.f0 v.drift.f1 v.reserve x2.f0.f0 x2.f0.f1 x2.f1.f0 x2.f1.f1 x4.f0 x4.f1 x5.f0.f0.f0 x5.f0.f0.f1 x5.f0.f1.f0 x5.f0.f1.f1 x5.f1 x5.f2 = some true:=by
    intro q
    rw [ak.j3]
    cases q with
    |false=>rw [if_neg (by decide),works (by omega)];rfl
    |true =>
     have hbe:qg.f s.nx s.ny s.cell s.slot s.slots s.layers s.most s.shores s.currents v.speed v.dive v.use.f0 v.use.f1 v.drift.f0 v.drift.f1 v.reserve x2.f0.f0 x2.f0.f1 x2.f1.f0 x2.f1.f1 x3 x4.f0 x4.f1 x5.f0.f0.f0 x5.f0.f0.f1 x5.f0.f1.f0 x5.f0.f1.f1 x5.f1 x5.f2 x6 = some ((Lc s v x2 x3 x4 x5 x6).1,(Lc s v x2 x3 x4 x5 x6).2,BO s v x2 x3 x4 x5 x6):=rfl
     rw [if_pos rfl,hbe,Option.bind_some]
     dsimp only
     have hE:BO s v x2 x3 x4 x5 x6≠0:=fun hE=>by
      obtain ⟨l,_,_,k2,_,_,k5⟩:=agu hE
      exact hng l (by omega) k5
     rw [if_neg hE,works (by omega)];rfl
   cases b with
   |true=>rw [if_pos rfl];exact h3 _
   |false=>rw [if_neg (by decide)];exact h3 _
  by_cases hle:(x7.length:Int)≤x6
  case neg=>rw [if_neg hle];exact hgo
  have hcq:jE.f s.nx s.ny s.cell s.slot s.slots s.layers s.most s.shores s.currents v.speed v.dive v.use.f0 v.use.f1 v.drift.f0 v.drift.f1 v.reserve x2.f0.f0 x2.f0.f1 x2.f1.f0 x2.f1.f1 x3 x4.f0 x4.f1 x7 x5.f0.f0.f0 x5.f0.f0.f1 x5.f0.f1.f0 x5.f0.f1.f1 x5.f1 x5.f2 = some (yP s v x2 x3 x4 x7 x5):=rfl
  rw [if_pos hle,hcq,Option.bind_some,show (yP s v x2 x3 x4 x7 x5 == 0) = false from beq_eq_false_iff_ne.2 (hng x7 (by omega))]
  exact hgo
 exact ⟨4000+4,main 4000 (Nat.le_refl _)⟩
end Go.Proofs.Ytmhaiihjfgfaoaa.Pure
end
