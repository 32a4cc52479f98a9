import Derived.Test.YtmhaiihjfgfaoaaGfGliderFetch3
import Derived.Test.YtmhaiihjfgfaoaaGfGliderFetch33
import Derived.Test.YtmhaiihjfgfaoaaGfGliderFetch34
import Derived.Test.YtmhaiihjfgfaoaaGfGliderFetch35
set_option linter.unusedVariables false
set_option linter.unusedSimpArgs false
set_option linter.unusedVariables false
section
namespace Go.Proofs.Ytmhaiihjfgfaoaa.Pure
open Go.RowKit Go.Proofs.YtmhaiihjfgfaoaaW.PrintWords Go.Proofs.YtmhaiihjfgfaoaaW.PrintLast Go.Proofs.Ytmhaiihjfgfaoaa.Pr Go.Proofs.Ytmhaiihjfgfaoaa.Good Go.Proofs.Ytmhaiihjfgfaoaa.Gl
namespace Fetch
theorem works {k:Nat} (h:60≤k):bX.f k = some true:=O4 bX.mono h bX.aws
theorem ai9 (s:oJ) (v:tF):∀ (l:List xN) (x:jf) (t n:Int) (out:List jf),(uJ s v l x t n out).2.2 = 0→out <+:(uJ s v l x t n out).1
 |[],x,t,n,out,h=>by unfold uJ;exact List.prefix_refl _
 |c :: l,x,t,n,out,h=>by
  unfold uJ at h ⊢
  split at h
  ·rename_i hn
   exact absurd h hn
  ·rename_i hn
   rw [if_neg hn]
   exact (List.prefix_append _ _).trans (ai9 s v l _ _ _ _ h)
theorem apt {α:Type} {out R:List α} {y:α} (h:out++[y] <+:R):R.drop out.length = y :: R.drop (out.length+1):=by
 obtain ⟨t,rfl⟩:=h
 simp
section
variable (s:oJ) (v:tF) (t:Int) (plan:List xN) (parts:List Int) (p:S81) (hS:Va s) (hV:Fy v) (hv:Dt v = true) (hall:plan.all (GY s.layers) = true) (hlen:plan.length≤6) (hparts:∀ y ∈ parts,(Lit.int .u16 y).wf = true) (hpk:Gs p = true) (ht:0≤t∧t≤1073741824)
include hS hV hv hall hlen hparts hpk ht
theorem loop:∀ (m i K:Nat) (X:jf) (px py:Int) (flag:Bool) (T acc:Int) (E:ky) (out:List jf) (avO:List ky),i+m = plan.length→2*m+70≤K→
 T = t+(i:Int)*v.dive→(uJ s v (plan.drop i) X T (i:Int) out).2.2 = 0→xD X→Ri X px py→(enI v (plan.drop i) E (i:Int) avO).2.2 = 0→(0≤E.f0∧E.f0≤E.f1∧E.f1≤1073741824)→out.length = i→
 OI v.dive p ((uJ s v (plan.drop i) X T (i:Int) out).1.drop i) T acc = 2→(acc≤2∧(acc = 2→flag = true∧v.reserve≤E.f0))→
 ae.l0 K t plan parts px py flag E.f0 (i:Int) s.nx s.ny s.cell s.slot s.slots s.layers s.most s.shores s.currents v.speed v.dive v.use.f0 v.use.f1 v.drift.f0 v.drift.f1 v.reserve p.f0.f0.f0 p.f0.f0.f1 p.f0.f1.f0 p.f0.f1.f1 p.f1 p.f2 = some true:=by
 intro m
 induction m with
 |zero =>
  intro i K X px py flag T acc E out avO h hk hT hR hX hp hE hEb ho hF hacc
  obtain ⟨K,rfl⟩:∃ z,K = z+1:=⟨K - 1,by omega⟩
  rw [List.drop_eq_nil_of_le (show plan.length≤i by omega)] at hF
  unfold uJ at hF
  dsimp only at hF
  rw [List.drop_eq_nil_of_le (by omega)] at hF
  have h2:acc = 2:=hF
  obtain ⟨hf,hl⟩:=hacc.2 h2
  rw [ae.l0,if_neg (by omega),if_pos hf,if_pos hl,works (by omega)]
  rfl
 |succ m ih =>
  intro i K X px py flag T acc E out avO h hk hT hR hX hp hE hEb ho hF hacc
  obtain ⟨K,rfl⟩:∃ z,K = z+2:=⟨K - 2,by omega⟩
  have hi:i < plan.length:=by omega
  have e:bJ plan (i:Int) = plan[i]:=by
   unfold bJ
   simp [hi]
  obtain ⟨⟨hh0,hh1⟩,hl0,hl1⟩:=ZF hS.n.layers.1 (List.all_eq_true.1 hall plan[i] (List.getElem_mem hi))
  rw [List.drop_eq_getElem_cons hi] at hR hE hF
  unfold uJ at hR hF
  unfold enI at hE
  by_cases hD:qz s v X T = 0
  case neg =>
   rw [if_pos hD] at hR
   exact absurd hR hD
  rw [if_neg (fun q=>q hD)] at hR hF
  by_cases hlow:E.f0 - (ni v plan[i]).f1 < v.reserve
  ·rw [if_pos hlow] at hE
   cases hE
  rw [if_neg hlow] at hE
  have hpre:=ai9 s v _ _ _ _ _ hR
  have hdp:=apt hpre
  rw [ho] at hdp
  rw [hdp,OI] at hF
  have hus:=UH hv plan[i]
  have htk:eF.f v.speed v.dive v.use.f0 v.use.f1 v.drift.f0 v.drift.f1 v.reserve plan[i].f0 plan[i].f1 = some ((ni v plan[i]).f0,(ni v plan[i]).f1):=by
   unfold eF.f ni
   split <;> rfl
  obtain ⟨hpx,hpy,⟨hT0,hj,hj0,hT1⟩,⟨a07,a08⟩,hix,hcur⟩:=avM (hd:=plan[i].f0) hS hV hX hD hp ⟨hl0,hl1⟩
  dsimp only at hcur
  obtain ⟨hcb,hgo⟩:=hcur
  have hcl:=hS.n.cell
  have hsl:=hS.n.slot
  have hnx:=hS.n.nx
  have hny:=hS.n.ny
  have hdv:=hV.dive
  have hsp:=hV.speed
  have hqi:=iI (a:=(i:Int)) (b:=v.dive) (m:=6) (n:=131072) (by omega) (by omega) (by omega) (by omega)
  have hTw:wrap64 (t+wrap64 ((i:Int)*v.dive)) = T:=by rw [dH (x:=(i:Int)*v.dive) (by omega),dH (x:=t+(i:Int)*v.dive) (by omega),hT]
  have hdx:=Fa (x:=px / 4000000) (c:=s.cell) (by omega) (by omega)
  have hdy:=Fa (x:=py / 4000000) (c:=s.cell) (by omega) (by omega)
  have hkx:mn (wrap64 (Int.tdiv (wrap64 (Int.tdiv px 4000000)) s.cell)) (wrap64 (s.nx - 1)) = min (px / 4000000 / s.cell) (s.nx - 1):=by
   rw [GR,Int.tdiv_eq_ediv_of_nonneg hpx.1,dH (x:=px / 4000000) (by omega),Int.tdiv_eq_ediv_of_nonneg (show 0≤px / 4000000 by omega),dH (x:=px / 4000000 / s.cell) (by omega),dH (x:=s.nx - 1) (by omega)]
  have hky:mn (wrap64 (Int.tdiv (wrap64 (Int.tdiv py 4000000)) s.cell)) (wrap64 (s.ny - 1)) = min (py / 4000000 / s.cell) (s.ny - 1):=by
   rw [GR,Int.tdiv_eq_ediv_of_nonneg hpy.1,dH (x:=py / 4000000) (by omega),Int.tdiv_eq_ediv_of_nonneg (show 0≤py / 4000000 by omega),dH (x:=py / 4000000 / s.cell) (by omega),dH (x:=s.ny - 1) (by omega)]
  have hdT:=Fa (x:=T) (c:=s.slot) hT0 (by omega)
  have hjw:wrap64 (Int.tdiv T s.slot) = T / s.slot:=by rw [Int.tdiv_eq_ediv_of_nonneg hT0,dH (x:=T / s.slot) (by omega)]
  have hdir:=ai8 hh0 hh1
  have hdi:=Rm plan[i].f0
  rw [ae.l0,if_pos (by omega),if_pos (by omega),e,hdir,Option.bind_some,if_neg (by omega),if_neg (by omega),hTw,hjw,hkx,hky]
  dsimp only
  rw [if_neg (by omega),if_neg (by omega),decide_eq_false (show ¬(T / s.slot ≥ s.slots) by omega),ae.j2,if_neg (by decide),if_pos (by omega),if_pos (by omega),e]
  have aOf:=a06 (J:=T / s.slot) (L:=s.layers) (layer:=plan[i].f1) (nx:=s.nx) (ny:=s.ny) ⟨hj0,by have:=hS.n.slots;omega⟩ ⟨by have:=hS.n.layers;omega,hS.n.layers.2⟩ ⟨hl0,by have:=hS.n.layers;omega⟩ ⟨by omega,hnx.2⟩ ⟨by omega,hny.2⟩ a08 a07
  have hpt:(T / s.slot*s.layers+plan[i].f1)*(s.nx*s.ny)+(min (py / 4000000 / s.cell) (s.ny - 1)*s.nx+min (px / 4000000 / s.cell) (s.nx - 1)) = UT s plan[i].f1 T px py:=rfl
  rw [hpt] at aOf
  rw [aOf,if_pos hix.1,if_pos hix.2]
  generalize ay s.currents (UT s plan[i].f1 T px py) = cu at*
  obtain ⟨a0,ha0,ha1⟩:=ai5 hparts (i:=2*(i:Int)) (by omega)
  obtain ⟨a2,ha2,ha3⟩:=ai5 hparts (i:=2*(i:Int)+1) (by omega)
  obtain ⟨pu,hpu,aOg,aOh⟩:=Tk (a:=cu.f0.f0) (b:=cu.f0.f1) (m:=a0) (by omega) (by omega) (by omega) ha1
  obtain ⟨pv,hpv,aOi,hpv1⟩:=Tk (a:=cu.f1.f0) (b:=cu.f1.f1) (m:=a2) (by omega) (by omega) (by omega) ha3
  rw [dH (x:=2*(i:Int)) (by omega),ha0,Option.bind_some,hpu,Option.bind_some,dH (x:=2*(i:Int)+1) (by omega),ha2,Option.bind_some,hpv,Option.bind_some,htk,Option.bind_some]
  dsimp only
  have hmx:=axS (px:=px) (D:=(Cb plan[i].f0).1) (speed:=v.speed) (pu:=pu) (dive:=v.dive) hpx hdi.1 hsp (by omega) ⟨by omega,hdv.2⟩
  have hmy:=axS (px:=py) (D:=(Cb plan[i].f0).2) (speed:=v.speed) (pu:=pv) (dive:=v.dive) hpy hdi.2 hsp (by omega) ⟨by omega,hdv.2⟩
  have hpY:=hgo pu pv ⟨aOg,aOh⟩ ⟨aOi,hpv1⟩
  rw [hmx,hmy,dH (x:=E.f0 - (ni v plan[i]).f1) (by omega),dH (x:=(i:Int)+1) (by omega),dH (x:=T+v.dive) (by omega)]
  have hBY:=TW (hd:=plan[i].f0) (layer:=plan[i].f1) hS hV hX hD
  generalize px+(4*((Cb plan[i].f0).1*v.speed+1000*pu))*v.dive = px' at*
  generalize py+(4*((Cb plan[i].f0).2*v.speed+1000*pv))*v.dive = py' at*
  generalize oP s v X T plan[i].f0 plan[i].f1 = Y at*
  have hc:((i+1:Nat):Int) = (i:Int)+1:=by omega
  have hT2:T+v.dive = t+((i+1:Nat):Int)*v.dive:=by rw [hT,hc,Int.add_mul,Int.one_mul];omega
  have hin:=aAw Y p.f0
  have hres:=UI hv
  have next:∀ fl:Bool,((if p.f1≤T+v.dive∧T+v.dive≤p.f2 then max acc (Mt Y p.f0) else acc) = 2→fl = true)→
   ae.l0 K t plan parts px' py' fl (E.f0 - (ni v plan[i]).f1) ((i:Int)+1) s.nx s.ny s.cell s.slot s.slots s.layers s.most s.shores s.currents v.speed v.dive v.use.f0 v.use.f1 v.drift.f0 v.drift.f1 v.reserve p.f0.f0.f0 p.f0.f0.f1 p.f0.f1.f0 p.f0.f1.f1 p.f1 p.f2 = some true:=by
   intro fl hfl
   have aOj:=ih (i+1) K Y px' py' fl (T+v.dive) (if p.f1≤T+v.dive∧T+v.dive≤p.f2 then max acc (Mt Y p.f0) else acc) ⟨E.f0 - (ni v plan[i]).f1,E.f1 - (ni v plan[i]).f0⟩ (out++[Y]) (avO++[⟨E.f0 - (ni v plan[i]).f1,E.f1 - (ni v plan[i]).f0⟩]) (by omega) (by omega) hT2 (by rw [hc];exact hR) hBY hpY (by rw [hc];exact hE) (by dsimp only;omega) (by rw [List.length_append,ho];rfl) (by rw [hc];exact hF) ⟨by split <;> omega,fun q=>⟨hfl q,by dsimp only;omega⟩⟩
   rw [hc] at aOj
   exact aOj
  have hbx:Mj p.f0 = true:=by
   unfold Gs at hpk
   simp only [Bool.and_eq_true] at hpk
   exact hpk.1.1.1
  unfold Mj at hbx
  simp only [Bool.and_eq_true,jC] at hbx
  obtain ⟨_,⟨⟨⟨b0,b1⟩,b2⟩,b3⟩⟩:=hbx
  cases flag with
  |true =>
   rw [if_pos rfl]
   exact next true (fun _=>rfl)
  |false =>
   have hno:acc≠2:=fun q=>by have:=(hacc.2 q).1;cases this
   rw [if_neg (by decide)]
   by_cases c1:p.f1≤T+v.dive
   ·rw [if_pos (show T+v.dive ≥ p.f1 from c1)]
    by_cases c2:T+v.dive≤p.f2
    ·rw [if_pos c2]
     obtain ⟨b,hb,hb2⟩:=aeO (x:=p.f0) (by omega) (by omega) (by omega) (by omega) px' py'
     rw [hb,Option.bind_some]
     refine next b (fun q=>hb2 (hpY.sub (avL ?_)))
     rw [if_pos ⟨c1,c2⟩] at q
     omega
    ·rw [if_neg c2]
     refine next false (fun q=>?_)
     rw [if_neg (fun z=>c2 z.2)] at q
     exact absurd q hno
   ·rw [if_neg (show ¬(T+v.dive ≥ p.f1) from c1)]
    refine next false (fun q=>?_)
    rw [if_neg (fun z=>c1 z.1)] at q
    exact absurd q hno
end
end Fetch
open Fetch in
theorem GliderFetch:∀ (x0:S25) (x1:S29) (x2:jf) (x3:Int) (x4:ky) (x5:(List xN)) (x6:S81) (x7:G56) (x8:(List Int)),W25 x0→W29 x1→W31 x2→(Lit.int .i64 x3).wf = true→W27 x4→((∀ y ∈ x5,W33 y)∧x5.length*Try.prog.bytesOf 33≤reachBytes)→W81 x6→W56 x7→((∀ y ∈ x8,(Lit.int .u16 y).wf = true)∧x8.length*Try.prog.bytesOf 55≤reachBytes)→∃ k,ae.f k (x0.f0) (x0.f1) (x0.f2) (x0.f3) (x0.f4) (x0.f5) (x0.f6) (x0.f7) (x0.f8) (x1.f0) (x1.f1) (x1.f2.f0) (x1.f2.f1) (x1.f3.f0) (x1.f3.f1) (x1.f4) (x2.f0.f0) (x2.f0.f1) (x2.f1.f0) (x2.f1.f1) x3 (x4.f0) (x4.f1) x5 (x6.f0.f0.f0) (x6.f0.f0.f1) (x6.f0.f1.f0) (x6.f0.f1.f1) (x6.f1) (x6.f2) (x7.f0) (x7.f1) x8 = some true:=by
 intro x0 x1 x2 x3 x4 x5 x6 x7 x8 g0 g1 g2 g3 g4 g5 g6 g7 g8
 let s:oJ:=⟨x0.f0,x0.f1,x0.f2,x0.f3,x0.f4,x0.f5,x0.f6,x0.f7,x0.f8⟩
 let v:tF:=⟨x1.f0,x1.f1,⟨x1.f2.f0,x1.f2.f1⟩,⟨x1.f3.f0,x1.f3.f1⟩,x1.f4⟩
 have main:∀ K:Nat,4000≤K→ae.f (K+1) s.nx s.ny s.cell s.slot s.slots s.layers s.most s.shores s.currents v.speed v.dive v.use.f0 v.use.f1 v.drift.f0 v.drift.f1 v.reserve x2.f0.f0 x2.f0.f1 x2.f1.f0 x2.f1.f1 x3 x4.f0 x4.f1 x5 x6.f0.f0.f0 x6.f0.f0.f1 x6.f0.f1.f0 x6.f0.f1.f1 x6.f1 x6.f2 x7.f0 x7.f1 x8 = some true:=by
  intro K hK
  have ht:ae.j0 (K+1) x3 x5 x8 true s.nx s.ny s.cell s.slot s.slots s.layers s.most s.shores s.currents v.speed v.dive v.use.f0 v.use.f1 v.drift.f0 v.drift.f1 v.reserve x2.f0.f0 x2.f0.f1 x2.f1.f0 x2.f1.f1 x4.f0 x4.f1 x6.f0.f0.f0 x6.f0.f0.f1 x6.f0.f1.f0 x6.f0.f1.f1 x6.f1 x6.f2 x7.f0 x7.f1 = some true:=by
   rw [ae.j0,if_pos rfl,works (by omega)];rfl
  unfold ae.f
  rw [avK s v x2 x3 (K+1) (by omega),Option.bind_some]
  by_cases hval:avJ s v x2 x3 = true
  case neg=>rw [if_neg hval,ht]
  rw [if_pos hval]
  by_cases h6:(x5.length:Int) > 6
  ·rw [decide_eq_true h6,ht]
  rw [decide_eq_false h6,ae.j0,if_neg (by decide)]
  unfold avJ at hval
  simp only [Bool.and_eq_true,Bool.not_eq_true',decide_eq_false_iff_not,decide_eq_true_eq] at hval
  obtain ⟨⟨⟨⟨⟨⟨v1,v2⟩,v3⟩,v4⟩,v5⟩,v6⟩,v7⟩:=hval
  have hcp:oh.f s.nx s.ny s.cell s.slot s.slots s.layers s.most s.shores s.currents v.speed v.dive v.use.f0 v.use.f1 v.drift.f0 v.drift.f1 v.reserve x2.f0.f0 x2.f0.f1 x2.f1.f0 x2.f1.f1 x3 x4.f0 x4.f1 x5 x6.f0.f0.f0 x6.f0.f0.f1 x6.f0.f1.f0 x6.f0.f1.f1 x6.f1 x6.f2 = some (OJ s v x2 x3 x4 x5 x6):=rfl
  rw [hcp,Option.bind_some,VB s v x2 x3 x4 x5 x6 K (by omega) (by omega) (by omega),Option.bind_some,if_pos rfl]
  by_cases hP:OJ s v x2 x3 x4 x5 x6 = 0
  case neg=>rw [if_neg hP,works (by omega)];rfl
  rw [if_pos hP]
  unfold OJ at hP
  obtain ⟨hb0,hP⟩:=pY hP
  by_cases hbn:xq x4.f0 x4.f1 0 1073741824 = false
  ·rw [if_pos hbn] at hP;cases hP
  rw [if_neg hbn] at hP
  obtain ⟨hc0,hP⟩:=pY hP
  by_cases hpk:Gs x6 = false
  ·rw [if_pos hpk] at hP;cases hP
  rw [if_neg hpk] at hP
  obtain ⟨hr0,hP⟩:=pY hP
  obtain ⟨he0,hP⟩:=pY hP
  have hf2:OI v.dive x6 (uJ s v x5 x2 x3 0 []).1 x3 0 = 2:=by
   by_cases q:OI v.dive x6 (uJ s v x5 x2 x3 0 []).1 x3 0 = 2
   ·exact q
   ·rw [if_pos q] at hP;cases hP
  have hbg:vB s v x2 x3 = if ru s v≠0 then ru s v else xS x2 x3:=rfl
  rw [hbg] at hb0
  obtain ⟨ht0,hp0⟩:=pY hb0
  obtain ⟨hbx,aj3,amw⟩:=M7 hp0
  obtain ⟨hSV,hVN⟩:=M6 ht0
  obtain ⟨ak6,hall⟩:=ZE hc0
  have hbb:=Jm.1 (by cases h:xq x4.f0 x4.f1 0 1073741824 with|true=>rfl|false=>exact absurd h hbn)
  have a09:Gs x6 = true:=by cases h:Gs x6 with|true=>rfl|false=>exact absurd h hpk
  have hw0:=wf_u16 g7.1
  have hw1:=wf_u16 g7.2
  have aAx:=v5
  unfold Mj at aAx
  simp only [Bool.and_eq_true,jC] at aAx
  obtain ⟨_,⟨⟨⟨b0,b1⟩,b2⟩,b3⟩⟩:=aAx
  have hBX:=hbx
  obtain ⟨_,o0,o1⟩:=hbx
  obtain ⟨pu,hpu,aOg,aOh⟩:=Tk (a:=x2.f0.f0) (b:=x2.f0.f1) (m:=x7.f0) (by omega) o0 (by omega) hw0
  obtain ⟨pv,hpv,aOi,hpv1⟩:=Tk (a:=x2.f1.f0) (b:=x2.f1.f1) (m:=x7.f1) (by omega) o1 (by omega) hw1
  rw [hpu,Option.bind_some,hpv,Option.bind_some,dH (x:=pu*4000000) (by omega),dH (x:=pv*4000000) (by omega)]
  have hgo:=loop s v x3 x5 x8 x6 hSV hVN (Qk ht0) hall (by omega) g8.1 a09 ⟨aj3,amw⟩ x5.length 0 K x2 (pu*4000000) (pv*4000000) false x3 0 x4 [] [] (Nat.zero_add _) (by omega) (by simp) (by rw [List.drop_zero];exact hr0) hBX (by unfold Ri;omega) (by rw [List.drop_zero];exact he0) (by omega) rfl (by rw [List.drop_zero,List.drop_zero];exact hf2) ⟨by decide,fun q=>by cases q⟩
  exact hgo
 exact ⟨4000+1,main 4000 (Nat.le_refl _)⟩
end Go.Proofs.Ytmhaiihjfgfaoaa.Pure
end
