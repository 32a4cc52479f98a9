import Derived.Test.YtmhaiihjfgfaoaaGaGliderIsotone2
import Derived.Test.YtmhaiihjfgfaoaaGaa8
section
namespace Go.Proofs.Ytmhaiihjfgfaoaa.Pure
open Go.RowKit Go.Proofs.YtmhaiihjfgfaoaaW.PrintWords Go.Proofs.YtmhaiihjfgfaoaaW.PrintLast Go.Proofs.Ytmhaiihjfgfaoaa.Pr Go.Proofs.Ytmhaiihjfgfaoaa.Good Go.Proofs.Ytmhaiihjfgfaoaa.Gl
namespace Isotone
theorem wf_u8 {x:Int} (h:(Lit.int .u8 x).wf = true):0≤x∧x≤255:=by
 unfold Lit.wf at h
 simp only [Bool.and_eq_true,decide_eq_true_eq] at h
 exact ⟨h.1,h.2⟩
theorem works {k:Nat} (h:60≤k):bE.f k = some true:=yZ bE.mono h bE.Zt
theorem Yi {a b:jI} (h:mH a b):jU.f a.f0.f0 a.f0.f1 a.f1.f0 a.f1.f1 b.f0.f0 b.f0.f1 b.f1.f0 b.f1.f1 = some true:=by
 unfold jU.f
 rw [if_pos h.1,if_pos h.2.1,if_pos h.2.2.1,decide_eq_true h.2.2.2]
abbrev Zu (c c':mQ):Prop:=mH ⟨c.f0,c.f1⟩ ⟨c'.f0,c'.f1⟩
theorem Zv (l:List mQ) (i:Nat) (v:mQ) (j:Int):bn (l.set i v) j = if j.toNat = i∧i < l.length then v else bn l j:=by
 unfold bn
 rw [List.getD_eq_getElem?_getD,List.getD_eq_getElem?_getD,List.getElem?_set]
 by_cases h:i = j.toNat
 ·rw [if_pos h]
  by_cases h2:i < l.length
  ·rw [if_pos h2,if_pos ⟨h.symm,h2⟩];rfl
  ·rw [if_neg h2,if_neg (fun q=>h2 q.2),List.getElem?_eq_none (by omega)]
 ·rw [if_neg h,if_neg (fun q=>h q.1.symm)]
theorem loop (s:oH) (v:wW) (x' V:jI) (t hd layer by_:Int) (which E:Int) (hw:0≤which∧which≤255) (hb:0≤by_∧by_≤255) (hS:Hm s = true) (hl:s.currents.length≤100000)
 (H:∀ cs:List mQ,(∀ i:Int,Zu (bn s.currents i) (bn cs i))→E = 0→xV { s with currents:=cs } v x' t hd layer = 0→mH V (uk { s with currents:=cs } v x' t hd layer)):
 ∀ (m i K:Nat) (cs:List mQ),i+m = s.currents.length→m+61≤K→cs.length = s.currents.length→(∀ j:Int,(i:Int)≤j→bn cs j = bn s.currents j)→(∀ j:Int,Zu (bn s.currents j) (bn cs j))→
 bS.l0 K t which by_ E (i:Int) s.nx s.ny s.cell s.slot s.slots s.layers s.most s.shores s.currents v.speed v.dive v.use.f0 v.use.f1 v.drift.f0 v.drift.f1 v.reserve hd layer V.f0.f0 V.f0.f1 V.f1.f0 V.f1.f1 x'.f0.f0 x'.f0.f1 x'.f1.f0 x'.f1.f1 s.nx s.ny s.cell s.slot s.slots s.layers s.most s.shores cs = some true
 |0,i,K+1,cs,h,hk,hc,h1,h2=>by
  rw [bS.l0,if_neg (by omega)]
  unfold iH.f
  rw [Option.bind_some]
  by_cases e:E = 0
  ·rw [if_pos e]
   by_cases e2:xV { s with currents:=cs } v x' t hd layer = 0
   ·have:=Yi (H cs h2 e e2)
    refine Eq.trans (if_pos e2) ?_
    refine Eq.trans (congrArg (fun o=>Option.bind o _) this) ?_
    rw [Option.bind_some,if_pos rfl,works (by omega)];rfl
   ·refine Eq.trans (if_neg e2) ?_
    rw [works (by omega)];rfl
  ·rw [if_neg e,works (by omega)];rfl
 |m+1,i,K+1,cs,h,hk,hc,h1,h2=>by
  have hi:i < s.currents.length:=by omega
  have w1:wrap64 which = which:=jb (by omega)
  have w2:wrap64 by_ = by_:=jb (by omega)
  have w3:wrap64 ((i:Int)+1) = ((i+1:Nat):Int):=by rw [jb (by omega)];omega
  have td:0≤which.tmod 7∧which.tmod 7 < 7:=by rw [Int.tmod_eq_emod_of_nonneg hw.1];omega
  have w4:wrap64 (1+which.tmod 7) = 1+which.tmod 7:=jb (by omega)
  have hm:=(J2 hS).n.most
  have w5:wrap64 (-s.most) = -s.most:=jb (by omega)
  rw [bS.l0,if_pos (by omega),w1,w2,w3,w4,w5,if_neg (by omega)]
  by_cases e:Int.tmod (i:Int) (1+which.tmod 7) = 0
  ·rw [if_pos e,if_pos (by omega)]
   have hmem:bn s.currents (i:Int) ∈ s.currents:=by
    unfold bn
    rw [Int.toNat_natCast,List.getD_eq_getElem?_getD,List.getElem?_eq_getElem hi]
    exact List.getElem_mem hi
   have hb':Jl s.most (bn s.currents (i:Int)) = false:=by
    have hq:=hS
    unfold Hm at hq
    simp only [Bool.and_eq_true,Bool.not_eq_true'] at hq
    have:=List.any_eq_false.1 hq.2 _ hmem
    simpa using this
   unfold Jl at hb'
   simp only [Bool.or_eq_false_iff,Bool.not_eq_false',QQ] at hb'
   rw [h1 (i:Int) (Int.le_refl _)]
   refine loop s v x' V t hd layer by_ which E hw hb hS hl H m (i+1) K _ (by omega) (by omega) (by rw [List.length_set];exact hc) (fun j hj=>?_) (fun j=>?_)
   ·rw [Zv,if_neg (by omega)]
    exact h1 j (by omega)
   ·rw [Zv]
    by_cases ej:j.toNat = (i:Int).toNat∧(i:Int).toNat < cs.length
    ·rw [if_pos ej]
     have ej':bn s.currents j = bn s.currents (i:Int):=by unfold bn;rw [ej.1]
     rw [ej',Ah,EP,jb (x:=(bn s.currents (i:Int)).f0.f0 - by_) (by omega),jb (x:=(bn s.currents (i:Int)).f0.f1+by_) (by omega)]
     unfold Zu mH
     dsimp only
     omega
    ·rw [if_neg ej]
     exact h2 j
  ·rw [if_neg e]
   exact loop s v x' V t hd layer by_ which E hw hb hS hl H m (i+1) K cs (by omega) (by omega) hc (fun j hj=>h1 j (by omega)) h2
end Isotone
open Isotone in
theorem GliderIsotone:∀ (x0:S25) (x1:S29) (x2:jI) (x3:Int) (x4:M0) (x5:Int) (x6:Int) (x7:Int),W25 x0→W29 x1→W31 x2→(Lit.int .i64 x3).wf = true→W33 x4→(Lit.int .u8 x5).wf = true→(Lit.int .u8 x6).wf = true→(Lit.int .u8 x7).wf = true→∃ k,bS.f k (x0.f0) (x0.f1) (x0.f2) (x0.f3) (x0.f4) (x0.f5) (x0.f6) (x0.f7) (x0.f8) (x1.f0) (x1.f1) (x1.f2.f0) (x1.f2.f1) (x1.f3.f0) (x1.f3.f1) (x1.f4) (x2.f0.f0) (x2.f0.f1) (x2.f1.f0) (x2.f1.f1) x3 (x4.f0) (x4.f1) x5 x6 x7 = some true:=by
 intro x0 x1 x2 x3 x4 x5 x6 x7 g0 g1 g2 g3 g4 g5 g6 g7
 have u5:0≤x5∧x5≤255:=wf_u8 g5
 have u6:0≤x6∧x6≤255:=wf_u8 g6
 have u7:0≤x7∧x7≤255:=wf_u8 g7
 let s:oH:=⟨x0.f0,x0.f1,x0.f2,x0.f3,x0.f4,x0.f5,x0.f6,x0.f7,x0.f8⟩
 let v:wW:=⟨x1.f0,x1.f1,⟨x1.f2.f0,x1.f2.f1⟩,⟨x1.f3.f0,x1.f3.f1⟩,x1.f4⟩
 refine ⟨3100,?_⟩
 unfold bS.f
 have hv:=ab2 s v x2 x3 3100 (by omega)
 refine Eq.trans (congrArg (fun o=>Option.bind o _) hv) ?_
 rw [Option.bind_some]
 cases hb:ab3 s v x2 x3 with
 |false =>
  rw [if_neg (by decide),works (by omega)];rfl
 |true =>
  rw [if_pos rfl]
  unfold iH.f
  rw [Option.bind_some,Option.bind_some]
  unfold ab3 at hb
  simp only [Bool.and_eq_true,Bool.not_eq_true',decide_eq_true_eq,decide_eq_false_iff_not] at hb
  obtain ⟨⟨⟨⟨⟨⟨b0,b1⟩,b2⟩,b3⟩,b4⟩,b5⟩,b6⟩:=hb
  have b1':x0.f8.length≤3000:=by have:¬((s.currents.length:Int) > 3000):=b1;have e:s.currents.length = x0.f8.length:=rfl;omega
  rw [if_pos (by simp only [List.length_nil];omega),List.nil_append]
  unfold K6 at b4
  simp only [Bool.and_eq_true,jB,xW] at b4
  refine loop s v ⟨⟨mx (-268435456) (wrap64 (x2.f0.f0 - wrap64 x5)),mn 268435456 (wrap64 (x2.f0.f1+wrap64 x5))⟩,⟨x2.f1.f0,x2.f1.f1⟩⟩ (uk s v x2 x3 x4.f0 x4.f1) x3 x4.f0 x4.f1 x7 x6 (xV s v x2 x3 x4.f0 x4.f1) u6 u7 b2 (by show x0.f8.length≤100000;omega) (fun cs hcs e1 e2=>?_) x0.f8.length 0 3100 x0.f8 (by show 0+x0.f8.length = x0.f8.length;omega) (by omega) rfl (fun j _=>rfl) (fun j=>mH.rfl' _)
  refine Yj ⟨rfl,rfl,rfl,rfl,rfl,rfl,rfl⟩ hcs ?_ e1 e2
  rw [jb (x:=x5) (by omega),jb (x:=x2.f0.f0 - x5) (by omega),jb (x:=x2.f0.f1+x5) (by omega),Ah,EP]
  unfold mH
  dsimp only
  omega
end Go.Proofs.Ytmhaiihjfgfaoaa.Pure
end
