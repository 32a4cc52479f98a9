import Derived.Test.YtmhaiihjfgfaoaaGfGliderFetch3
import Derived.Test.YtmhaiihjfgfaoaaGfGliderFetch18
set_option linter.unusedVariables false
set_option linter.unusedSimpArgs false
open Go.Value renaming int → U
open Go.IntKind renaming i64 → Z
open Bool renaming true → ab, false → ac
section
namespace Go.Proofs.Ytmhaiihjfgfaoaa.Pr
open Go.RowKit Go.Proofs.YtmhaiihjfgfaoaaW.PrintWords Go.Proofs.YtmhaiihjfgfaoaaW.PrintLast Go.Proofs.YtmhaiihjfgfaoaaW.PrintMore
attribute [local go_sem] gp gq iA iB gu
set_option linter.unusedVariables false
set_option linter.unusedSimpArgs false
def bW.l0:Nat→List (xN)→List (ky)→Int→Int→Int→Int→Int→Int→Int→Int→Int→Int→Option ((List (ky)) × Int × Int)
 |0,_,_,_,_,_,_,_,_,_,_,_,_=>none
 |k+1,x2,x9,QI,ahM,ahN,ahO,ahP,ahQ,ahR,YR,YS,ahS=>if QI < (x2.length:Int) then (if 0≤QI then ((eF.f ahM ahN ahO ahP ahQ ahR YR ((bJ x2 QI).f0) ((bJ x2 QI).f1)).bind fun ab9=>(if (wrap64 (YS - ab9.2)) < YR then (some (([]:List (ky)),QI,19)) else (if x9.length < 8796093022208 then (bW.l0 k x2 (x9++[(⟨wrap64 (YS - ab9.2),wrap64 (ahS - ab9.1)⟩:ky)]) (wrap64 (QI+1)) ahM ahN ahO ahP ahQ ahR YR (wrap64 (YS - ab9.2)) (wrap64 (ahS - ab9.1))) else (none)))) else (none)) else (some (x9,(x2.length:Int),0))
def bW.f (k:Nat) (ai:Int) (aj:Int) (aC:Int) (aD:Int) (aJ:Int) (aH:Int) (aK:Int) (aI:Int) (aG:Int) (l2:List (xN)):Option ((List (ky)) × Int × Int):=bW.l0 k l2 ([]:List (ky)) 0 ai aj aC aD aJ aH aK aI aG
def bW.T5:Bool × List (List Nat × List Nat):=(true,[([],[]),([],[]),([],[]),([1,2],[1,2]),([3],[3]),([0,4],[0,4]),([],[]),([6,5,5,0,1,2,3,4,5,6],[5,6])])
def bW.B5:List Nat:=[0,0,0,6,14,31,0,127]
theorem bW.ant:qA .any (opsOf Try.f92 5) = bW.T5:=by kernel_rfl
theorem bW.ab4:mI bW.T5.2 bW.B5 = true:=by kernel_rfl
set_option maxHeartbeats 8000000 in
set_option maxRecDepth 100000 in
theorem bW.calls (k:Nat) (ai:Int) (aj:Int) (aC:Int) (aD:Int) (aJ:Int) (aH:Int) (aK:Int) (aI:Int) (aG:Int) (A2:Option Addr) (c2:Nat) (l2:List (xN)) (r1:List (ky)) (r2:Int) (r3:Int) (w:World) (hr2:Kd.C k33 w A2 l2.length l2) (hc2:l2.length≤c2) (h:bW.f k ai aj aC aD aJ aH aK aI aG l2 = some (r1,r2,r3)):
 Calls Try.prog 92 #[.agg #[U Z ai,U Z aj,U Z aC,U Z aD,U Z aJ,U Z aH,U Z aK],.agg #[U Z aI,U Z aG],.slice A2 l2.length c2] w fun e w'=>∃ v0_:Value,e = .returned (.tuple #[v0_,U Z r2,U Z r3])∧Kd.R k27 27 w' w.heap.size (fun _=>True) v0_ r1∧Below w.heap.size w w':=by
 have Br:=Try.underlying29
 have pz:=Try.underlying27
 have MV:=Try.underlying33
 have HR2:=aa.mk hr2
 have HC2:=aa.mk hc2
 clear hr2 hc2
 have HB:=aa.mk (Below.refl w.heap.size w)
 have H:(bW.l0 k l2 ([]:List (ky)) 0 ai aj aC aD aJ aH aK aI aG) = some (r1,r2,r3):=h
 clear h
 have H':=aa.mk H
 clear H
 go_enter Try.func92,Try.ntmps92
 go_wp2_with (first|((with_reducible refine aA (N:=3) rfl ?_);refine au (by rfl) (N:=3) (by rfl) (cs:=#[U Z ai,U Z aj,U Z aC,U Z aD,U Z aJ,U Z aH,U Z aK]) (t:=29) fG ?_;intro jO hg w4 hbox hb;have jY:=aa.mk (hbox);have a3t:=bS HB hg;have a3u:=bS HB hg;replace HB:=cO HB hb;clear hb hbox hg)|((with_reducible refine aA (N:=4) rfl ?_);refine au (by rfl) (N:=4) (by rfl) (cs:=#[U Z aI,U Z aG]) (t:=27) fG ?_;intro tu hg w5 hbox hb;have mG:=aa.mk (hbox);have a3v:=bS HB hg;have a3w:=bS HB hg;have Wm:=eQ jY hg;have Wn:=eT jY hg;replace jY:=aX jY hb;replace HB:=cO HB hb;clear hb hbox hg))
 go_loopg [9,10] k (fun kq v9 v10 w'=>∃ (tV:List (ky)) (fo:Int) (jw:Int) (j4:Int),v10 = U Z fo∧aa (bW.l0 kq l2 tV fo ai aj aC aD aJ aH aK jw j4 = some (r1,r2,r3))∧aa (kq≤k)∧aa (Kd.R k27 27 w' w.heap.size (fun k_=>k_≠tu) v9 tV)∧aa (w'.heap[jO]? = some (.cells #[U Z ai,U Z aj,U Z aC,U Z aD,U Z aJ,U Z aH,U Z aK] 29 (0,0)))∧aa (w'.heap[tu]? = some (.cells #[U Z jw,U Z j4] 27 (0,0)))∧aa (Below w.heap.size w w'))
 case atStart=>exact ⟨(([]:List (ky))),(0),(aI),(aG),nM,H',⟨Nat.le_refl _⟩,⟨anu⟩,⟨gB⟩,⟨gB⟩,⟨gL⟩⟩
 case round =>
  clear H'
  try clear c2
  try clear p2
  obtain ⟨tV,fo,jw,j4,rfl,HA,JP,yH,jY,mG,HB⟩:=hrel
  cases gk with
  |zero=>exact absurd HA.out (by simp [bW.l0])
  |succ k1 =>
   have H:=HA.out
   clear HA
   simp only [bW.l0] at H
   by_cases c6:fo < (l2.length:Int)
   ·rw [if_pos c6] at H
    have GX:decide (fo < (l2.length:Int)) = true:=decide_eq_true c6
    clear c6
    by_cases c7:0≤fo
    ·rw [if_pos c7] at H
     have Q7:decide (0≤fo) = true:=decide_eq_true c7
     clear c7
     replace H:=Option.bind_eq_some_iff.mp H
     obtain ⟨⟨DJ,BC⟩,QO,H⟩:=H
     replace H:(if (wrap64 (jw - BC)) < aK then (some (([]:List (ky)),fo,19)) else (if tV.length < 8796093022208 then (bW.l0 k1 l2 (tV++[(⟨wrap64 (jw - BC),wrap64 (j4 - DJ)⟩:ky)]) (wrap64 (fo+1)) ai aj aC aD aJ aH aK (wrap64 (jw - BC)) (wrap64 (j4 - DJ))) else (none))) = some (r1,r2,r3):=H
     have A8:=aa.mk QO
     clear QO
     by_cases c9:(wrap64 (jw - BC)) < aK
     ·rw [if_pos c9] at H
      have Mm:decide ((wrap64 (jw - BC)) < aK) = true:=decide_eq_true c9
      clear c9
      simp only [Option.some.injEq,Prod.mk.injEq] at H
      obtain ⟨rfl,rfl,rfl⟩:=H
      try go_wp2
      replace yH:=aa.mk (Kd.mg yH.out)
      replace jY:=aa.mk (ag jY.out)
      replace mG:=aa.mk (ag mG.out)
      replace HB:=aa.mk (bO HB.out)
      have aey:0≤(fo:Int):=of_decide_eq_true mq
      have aez:fo < (l2.length:Int):=of_decide_eq_true mq
      obtain ⟨yI,azs,yJ,yK⟩:=kE HR2.out fo aey aez
      have wF:=yK
      have wG:=yJ
      cases azs
      replace yJ:=(HB.out.cell (World.block_lt_of_cell? w _ yJ)).trans yJ
      replace yK:=(HB.out.cell (World.block_lt_of_cell? w _ yK)).trans yK
      replace aey:=eq_true aey
      replace aez:=eq_true aez
      refine iN (n:=8) (S:=fun w'=>w'.cell? ⟨jO,0,none⟩ = some (U Z ai)∧w'.cell? ⟨jO,1,none⟩ = some (U Z aj)∧w'.cell? ⟨jO,2,none⟩ = some (U Z aC)∧w'.cell? ⟨jO,3,none⟩ = some (U Z aD)∧w'.cell? ⟨jO,4,none⟩ = some (U Z aJ)∧w'.cell? ⟨jO,5,none⟩ = some (U Z aH)∧w'.cell? ⟨jO,6,none⟩ = some (U Z aK)∧w'.cell? (yI.add ((fo).toNat*2)) = some (U Z ((bJ l2 fo).f0))∧w'.cell? ⟨(yI.add ((fo).toNat*2)).block,(yI.add ((fo).toNat*2)).off+1,none⟩ = some (U Z ((bJ l2 fo).f1))) (ds:=[]) #[ac,ac,ac,ac,ac,ac,ac,ac] aM rfl rfl (qp jY.out ⟨(jJ HB wG),(jJ HB wF)⟩) (fun hHeld=>?_);refine fU bW.ant bW.ab4 (fun bz jb=>?_)
      generalize wr.drew = w10 at yH jY mG HB yJ yK hHeld ⊢
      refine bV (i:=1) (N:=some 19) (ax bz.out aM) ?_
      refine bV (i:=2) (N:=some 20) (ax bz.out aM) ?_
      refine bV (i:=3) (N:=some 21) (ax bz.out aM) ?_
      refine iL (i:=0) (N:=some 18) (aY bz.out jb.out aM) hHeld ?_
      refine iL (i:=4) (N:=some 22) (aY bz.out jb.out aM) hHeld ?_
      refine QE (σ:=Nat) 1 #[ab,ab,ab,ab,ab,ab,ab,ac] (fun s_=>[(23,.agg #[U Z DJ,U Z BC]),(11,.pointer (some ⟨s_,0,none⟩))]) (fun s_ w'=>(w'.cell? ⟨jO,0,none⟩ = some (U Z ai)∧w'.cell? ⟨jO,1,none⟩ = some (U Z aj)∧w'.cell? ⟨jO,2,none⟩ = some (U Z aC)∧w'.cell? ⟨jO,3,none⟩ = some (U Z aD)∧w'.cell? ⟨jO,4,none⟩ = some (U Z aJ)∧w'.cell? ⟨jO,5,none⟩ = some (U Z aH)∧w'.cell? ⟨jO,6,none⟩ = some (U Z aK)∧w'.cell? (yI.add ((fo).toNat*2)) = some (U Z ((bJ l2 fo).f0))∧w'.cell? ⟨(yI.add ((fo).toNat*2)).block,(yI.add ((fo).toNat*2)).off+1,none⟩ = some (U Z ((bJ l2 fo).f1)))∧(Kd.R k27 27 w' w.heap.size (fun k_=>k_≠tu∧k_≠s_) u9 tV)∧(w'.heap[jO]? = some (.cells #[U Z ai,U Z aj,U Z aC,U Z aD,U Z aJ,U Z aH,U Z aK] 29 (0,0)))∧(w'.heap[tu]? = some (.cells #[U Z jw,U Z j4] 27 (0,0)))∧(w'.heap[s_]? = some (.cells #[U Z 0,U Z 0] 27 (0,0)))∧(w.heap.size≤s_)∧(w.heap.size≤s_)∧(jO≠s_)∧(s_≠jO)∧(tu≠s_)∧(s_≠tu)∧(Below w.heap.size w w')) ?_ ?_
      rotate_left
      ·intro hCont
       refine U9 (i:=5) (j:=6) (Ni:=some 23) (Nj:=some 11) #[ab,ab,ab,ab,ab,ab,ac,ac] #[ab,ab,ab,ab,ab,ac,ab,ac] rfl rfl rfl rfl (Jn bz.out aM) (by decide) (by decide) (fun K hK=>?_) (fun K hK=>?_)
       ·skip
        refine gJ Try.func39 aM rfl #[.agg #[U Z ai,U Z aj,U Z aC,U Z aD,U Z aJ,U Z aH,U Z aK],.agg #[U Z ((bJ l2 fo).f0),U Z ((bJ l2 fo).f1)]] (by rfl) rfl rfl ji ?_
        with_reducible refine (eF.calls ai aj aC aD aJ aH aK ((bJ l2 fo).f0) ((bJ l2 fo).f1) DJ BC _ A8.out).mono ?_
        rintro e w11 ⟨rfl,hb⟩
        refine ⟨_,rfl,?_⟩
        replace yH:=zt yH hb
        replace jY:=aX jY hb
        replace mG:=aX mG hb
        replace HB:=cO HB hb
        (try clear hb)
        (try clear hb2)
        (try clear hk)
        (try clear hi)
        refine hK.out _ _ (qp jY.out ⟨(jJ HB wG),(jJ HB wF)⟩) (fun hHeld=>?_)
        clear hK K
        refine dM atz ?_
        refine iO (i:=6) (N:=some 11) #[ab,ab,ab,ab,ab,ab,ab,ac] rfl rfl (eH bz.out aM) (by decide) (fun K hK=>?_)
        refine nV ?hg (N:=11) ?hd (cs:=#[U Z 0,U Z 0]) (t:=27) ?hr ?_;(case hd=>rfl);(case hg=>rfl);(case hr=>first|(go_simp;done)|(go_simp;rfl))
        intro lF hg O3 hbox hb
        have tX:=aa.mk (hbox)
        have BD:=bS HB hg
        have NZ:=bS HB hg
        have fw:=eQ jY hg
        have nZ:=eT jY hg
        have lJ:=eQ mG hg
        have lK:=eT mG hg
        replace yH:=aa.mk (Kd.mH (Kd.tK aca lF (Nat.le_of_eq hg.symm)) hb)
        replace jY:=aX jY hb
        replace mG:=aX mG hb
        replace HB:=cO HB hb
        clear hb hbox hg
        refine hK.out _ _ (qp jY.out ⟨(jJ HB wG),(jJ HB wF)⟩) (fun hHeld=>?_)
        clear hK K
        refine dM ajZ ?_
        exact dM M9 (hCont (lF) _ ⟨hHeld,aca,gB,gB,gB,BD.out,NZ.out,fw.out,nZ.out,lJ.out,lK.out,gL⟩)
       ·skip
        refine nV ?hg (N:=11) ?hd (cs:=#[U Z 0,U Z 0]) (t:=27) ?hr ?_;(case hd=>rfl);(case hg=>rfl);(case hr=>first|(go_simp;done)|(go_simp;rfl))
        intro lF hg w11 hbox hb
        have tX:=aa.mk (hbox)
        have BD:=bS HB hg
        have NZ:=bS HB hg
        have fw:=eQ jY hg
        have nZ:=eT jY hg
        have lJ:=eQ mG hg
        have lK:=eT mG hg
        replace yH:=aa.mk (Kd.mH (Kd.tK aca lF (Nat.le_of_eq hg.symm)) hb)
        replace jY:=aX jY hb
        replace mG:=aX mG hb
        replace HB:=cO HB hb
        clear hb hbox hg
        refine hK.out _ _ (qp jY.out ⟨(jJ HB wG),(jJ HB wF)⟩) (fun hHeld=>?_)
        clear hK K
        refine dM ajZ ?_
        refine iO (i:=5) (N:=some 23) #[ab,ab,ab,ab,ab,ab,ab,ac] rfl rfl (eH bz.out aM) (by decide) (fun K hK=>?_)
        refine gJ Try.func39 aM rfl #[.agg #[U Z ai,U Z aj,U Z aC,U Z aD,U Z aJ,U Z aH,U Z aK],.agg #[U Z ((bJ l2 fo).f0),U Z ((bJ l2 fo).f1)]] (by rfl) rfl rfl ji ?_
        with_reducible refine (eF.calls ai aj aC aD aJ aH aK ((bJ l2 fo).f0) ((bJ l2 fo).f1) DJ BC _ A8.out).mono ?_
        rintro e O3 ⟨rfl,hb⟩
        refine ⟨_,rfl,?_⟩
        replace yH:=zt yH hb
        replace jY:=aX jY hb
        replace mG:=aX mG hb
        replace tX:=aX tX hb
        replace HB:=cO HB hb
        (try clear hb)
        (try clear hb2)
        (try clear hk)
        (try clear hi)
        refine hK.out _ _ (qp jY.out ⟨(jJ HB wG),(jJ HB wF)⟩) (fun hHeld=>?_)
        clear hK K
        refine dM atz ?_
        exact dM M9 (hCont (lF) _ ⟨hHeld,aca,gB,gB,gB,BD.out,NZ.out,fw.out,nZ.out,lJ.out,lK.out,gL⟩)
      rintro lF FD ⟨hS_,h0_,h1_,h2_,h3_,h4_,h5_,h6_,h7_,h8_,h9_,Jo⟩
      have vD:aa (Kd.R k27 27 FD w.heap.size (fun k_=>k_≠tu∧k_≠lF) u9 tV):=⟨h0_⟩
      have vE:aa (FD.heap[jO]? = some (.cells #[U Z ai,U Z aj,U Z aC,U Z aD,U Z aJ,U Z aH,U Z aK] 29 (0,0))):=⟨h1_⟩
      have vF:aa (FD.heap[tu]? = some (.cells #[U Z jw,U Z j4] 27 (0,0))):=⟨h2_⟩
      have vG:aa (FD.heap[lF]? = some (.cells #[U Z 0,U Z 0] 27 (0,0))):=⟨h3_⟩
      have vY:aa (w.heap.size≤lF):=⟨h4_⟩
      have BP:aa (w.heap.size≤lF):=⟨h5_⟩
      have Jc:aa (jO≠lF):=⟨h6_⟩
      have Ld:aa (lF≠jO):=⟨h7_⟩
      have n8_:aa (tu≠lF):=⟨h8_⟩
      have n9_:aa (lF≠tu):=⟨h9_⟩
      have Jp:aa (Below w.heap.size w FD):=⟨Jo⟩
      clear yH jY mG HB
      clear h0_ h1_ h2_ h3_ h4_ h5_ h6_ h7_ h8_ h9_ Jo
      have yH:=vD
      have jY:=vE
      have mG:=vF
      have tX:=vG
      have BD:=vY
      have NZ:=BP
      have fw:=Jc
      have nZ:=Ld
      have lJ:=n8_
      have lK:=n9_
      have HB:=Jp
      clear vD vE vF vG vY BP Jc Ld n8_ n9_ Jp
      have hHeld:FD.cell? ⟨jO,0,none⟩ = some (U Z ai)∧FD.cell? ⟨jO,1,none⟩ = some (U Z aj)∧FD.cell? ⟨jO,2,none⟩ = some (U Z aC)∧FD.cell? ⟨jO,3,none⟩ = some (U Z aD)∧FD.cell? ⟨jO,4,none⟩ = some (U Z aJ)∧FD.cell? ⟨jO,5,none⟩ = some (U Z aH)∧FD.cell? ⟨jO,6,none⟩ = some (U Z aK)∧FD.cell? (yI.add ((fo).toNat*2)) = some (U Z ((bJ l2 fo).f0))∧FD.cell? ⟨(yI.add ((fo).toNat*2)).block,(yI.add ((fo).toNat*2)).off+1,none⟩ = some (U Z ((bJ l2 fo).f1)):=hS_
      refine dM (a':=?_) ?_ ?_
      rotate_left
      ·simp only [xC,Act.put,List.setIfInBounds_toArray,List.set_cons_zero,List.set_cons_succ]
       rfl
      refine iO (i:=7) (N:=none) #[ab,ab,ab,ab,ab,ab,ab,ab] rfl rfl (eH bz.out aM) (by decide) (fun K hK=>?_)
      have a7f:FD.cell? ⟨lF,0,none⟩ = some (U Z 0):=(ah tX.out 0).trans rfl
      have a3x:=bf tX.out 0
      have aR7:=fw.out
      have aR8:=lJ.out
      have aR9:=nZ.out
      have aSa:=lK.out
      have a7g:FD.cell? ⟨lF,1,none⟩ = some (U Z 0):=(ah tX.out 1).trans rfl
      have a3y:=bf tX.out 1
      have aSb:=fw.out
      have aSc:=lJ.out
      have aSd:=nZ.out
      have aSe:=lK.out
      refine ve (w1:=?_) (by rfl) rfl ?_ ?_
      rotate_left
      ·go_simp
       rfl
      refine hK.out _ _ ⟨(bY fw ((bY fw (hHeld.1)))),(bY fw ((bY fw (hHeld.2.1)))),(bY fw ((bY fw (hHeld.2.2.1)))),(bY fw ((bY fw (hHeld.2.2.2.1)))),(bY fw ((bY fw (hHeld.2.2.2.2.1)))),(bY fw ((bY fw (hHeld.2.2.2.2.2.1)))),(bY fw ((bY fw (hHeld.2.2.2.2.2.2.1)))),((cell_far (p:=⟨lF,_,none⟩) atA _).trans (((cell_far (p:=⟨lF,_,none⟩) atA _).trans (hHeld.2.2.2.2.2.2.2.1)))),((cell_far (p:=⟨lF,_,none⟩) atB _).trans (((cell_far (p:=⟨lF,_,none⟩) atB _).trans (hHeld.2.2.2.2.2.2.2.2))))⟩ (fun hHeld=>?_)
      clear hK K
      refine jS (ja bz.out aM) ?_
      have Na:=Wn.out
      have Nb:=Wm.out
      have Uj:=lJ.out
      have Uk:=lK.out
      obtain ⟨Ee,Ef,Eg,Eh⟩:=iZ mG.out
      have QL:=nZ.out
      have QM:=fw.out
      obtain ⟨wu,wy,wz,wB⟩:=iZ tX.out
      obtain ⟨xO,xP,Kz,KA,KC,KD,KE,xQ,xR,KF,KG,KH,KI,KJ⟩:=jF jY.out
      try go_wp2
      go_ret3
      exact ⟨_,lW,anu,gL⟩
     ·rw [if_neg c9] at H
      have Mm:decide ((wrap64 (jw - BC)) < aK) = false:=decide_eq_false c9
      clear c9
      by_cases XL:tV.length < 8796093022208
      ·rw [if_pos XL] at H
       have aDL:=aa.mk XL
       clear XL
       obtain ⟨aDM,acb⟩:∃ y_:List (ky),y_ = (tV++[(⟨wrap64 (jw - BC),wrap64 (j4 - DJ)⟩:ky)]):=⟨_,rfl⟩
       replace H:(bW.l0 k1 l2 aDM (wrap64 (fo+1)) ai aj aC aD aJ aH aK (wrap64 (jw - BC)) (wrap64 (j4 - DJ))) = some (r1,r2,r3):=by first|(rw [acb];with_reducible exact H)|(have Ji:=(Option.bind_some _ _).symm.trans H;rw [acb];with_reducible exact Ji)|(have Ji:=(Option.bind_some _ _).symm.trans H;with_reducible exact Ji)|with_reducible exact H|(rw [acb];exact H)|exact H
       have aDN:=aa.mk acb
       clear acb
       have H':=aa.mk H
       clear H
       try go_wp2
       replace yH:=aa.mk (Kd.mg yH.out)
       replace jY:=aa.mk (ag jY.out)
       replace mG:=aa.mk (ag mG.out)
       replace HB:=aa.mk (bO HB.out)
       have aey:0≤(fo:Int):=of_decide_eq_true mq
       have aez:fo < (l2.length:Int):=of_decide_eq_true mq
       obtain ⟨yI,azs,yJ,yK⟩:=kE HR2.out fo aey aez
       have wF:=yK
       have wG:=yJ
       cases azs
       replace yJ:=(HB.out.cell (World.block_lt_of_cell? w _ yJ)).trans yJ
       replace yK:=(HB.out.cell (World.block_lt_of_cell? w _ yK)).trans yK
       replace aey:=eq_true aey
       replace aez:=eq_true aez
       refine iN (n:=8) (S:=fun w'=>w'.cell? ⟨jO,0,none⟩ = some (U Z ai)∧w'.cell? ⟨jO,1,none⟩ = some (U Z aj)∧w'.cell? ⟨jO,2,none⟩ = some (U Z aC)∧w'.cell? ⟨jO,3,none⟩ = some (U Z aD)∧w'.cell? ⟨jO,4,none⟩ = some (U Z aJ)∧w'.cell? ⟨jO,5,none⟩ = some (U Z aH)∧w'.cell? ⟨jO,6,none⟩ = some (U Z aK)∧w'.cell? (yI.add ((fo).toNat*2)) = some (U Z ((bJ l2 fo).f0))∧w'.cell? ⟨(yI.add ((fo).toNat*2)).block,(yI.add ((fo).toNat*2)).off+1,none⟩ = some (U Z ((bJ l2 fo).f1))) (ds:=[]) #[ac,ac,ac,ac,ac,ac,ac,ac] aM rfl rfl (qp jY.out ⟨(jJ HB wG),(jJ HB wF)⟩) (fun hHeld=>?_);refine fU bW.ant bW.ab4 (fun bz jb=>?_)
       generalize wr.drew = w23 at yH jY mG HB yJ yK hHeld ⊢
       refine bV (i:=1) (N:=some 19) (ax bz.out aM) ?_
       refine bV (i:=2) (N:=some 20) (ax bz.out aM) ?_
       refine bV (i:=3) (N:=some 21) (ax bz.out aM) ?_
       refine iL (i:=0) (N:=some 18) (aY bz.out jb.out aM) hHeld ?_
       refine iL (i:=4) (N:=some 22) (aY bz.out jb.out aM) hHeld ?_
       refine QE (σ:=Nat) 1 #[ab,ab,ab,ab,ab,ab,ab,ac] (fun s_=>[(23,.agg #[U Z DJ,U Z BC]),(11,.pointer (some ⟨s_,0,none⟩))]) (fun s_ w'=>(w'.cell? ⟨jO,0,none⟩ = some (U Z ai)∧w'.cell? ⟨jO,1,none⟩ = some (U Z aj)∧w'.cell? ⟨jO,2,none⟩ = some (U Z aC)∧w'.cell? ⟨jO,3,none⟩ = some (U Z aD)∧w'.cell? ⟨jO,4,none⟩ = some (U Z aJ)∧w'.cell? ⟨jO,5,none⟩ = some (U Z aH)∧w'.cell? ⟨jO,6,none⟩ = some (U Z aK)∧w'.cell? (yI.add ((fo).toNat*2)) = some (U Z ((bJ l2 fo).f0))∧w'.cell? ⟨(yI.add ((fo).toNat*2)).block,(yI.add ((fo).toNat*2)).off+1,none⟩ = some (U Z ((bJ l2 fo).f1)))∧(Kd.R k27 27 w' w.heap.size (fun k_=>k_≠tu∧k_≠s_) u9 tV)∧(w'.heap[jO]? = some (.cells #[U Z ai,U Z aj,U Z aC,U Z aD,U Z aJ,U Z aH,U Z aK] 29 (0,0)))∧(w'.heap[tu]? = some (.cells #[U Z jw,U Z j4] 27 (0,0)))∧(w'.heap[s_]? = some (.cells #[U Z 0,U Z 0] 27 (0,0)))∧(w.heap.size≤s_)∧(w.heap.size≤s_)∧(jO≠s_)∧(s_≠jO)∧(tu≠s_)∧(s_≠tu)∧(Below w.heap.size w w')) ?_ ?_
       rotate_left
       ·intro hCont
        refine U9 (i:=5) (j:=6) (Ni:=some 23) (Nj:=some 11) #[ab,ab,ab,ab,ab,ab,ac,ac] #[ab,ab,ab,ab,ab,ac,ab,ac] rfl rfl rfl rfl (Jn bz.out aM) (by decide) (by decide) (fun K hK=>?_) (fun K hK=>?_)
        ·skip
         refine gJ Try.func39 aM rfl #[.agg #[U Z ai,U Z aj,U Z aC,U Z aD,U Z aJ,U Z aH,U Z aK],.agg #[U Z ((bJ l2 fo).f0),U Z ((bJ l2 fo).f1)]] (by rfl) rfl rfl ji ?_
         with_reducible refine (eF.calls ai aj aC aD aJ aH aK ((bJ l2 fo).f0) ((bJ l2 fo).f1) DJ BC _ A8.out).mono ?_
         rintro e w24 ⟨rfl,hb⟩
         refine ⟨_,rfl,?_⟩
         replace yH:=zt yH hb
         replace jY:=aX jY hb
         replace mG:=aX mG hb
         replace HB:=cO HB hb
         (try clear hb)
         (try clear hb2)
         (try clear hk)
         (try clear hi)
         refine hK.out _ _ (qp jY.out ⟨(jJ HB wG),(jJ HB wF)⟩) (fun hHeld=>?_)
         clear hK K
         refine dM atz ?_
         refine iO (i:=6) (N:=some 11) #[ab,ab,ab,ab,ab,ab,ab,ac] rfl rfl (eH bz.out aM) (by decide) (fun K hK=>?_)
         refine nV ?hg (N:=11) ?hd (cs:=#[U Z 0,U Z 0]) (t:=27) ?hr ?_;(case hd=>rfl);(case hg=>rfl);(case hr=>first|(go_simp;done)|(go_simp;rfl))
         intro lF hg w25 hbox hb
         have tX:=aa.mk (hbox)
         have BD:=bS HB hg
         have NZ:=bS HB hg
         have fw:=eQ jY hg
         have nZ:=eT jY hg
         have lJ:=eQ mG hg
         have lK:=eT mG hg
         replace yH:=aa.mk (Kd.mH (Kd.tK aca lF (Nat.le_of_eq hg.symm)) hb)
         replace jY:=aX jY hb
         replace mG:=aX mG hb
         replace HB:=cO HB hb
         clear hb hbox hg
         refine hK.out _ _ (qp jY.out ⟨(jJ HB wG),(jJ HB wF)⟩) (fun hHeld=>?_)
         clear hK K
         refine dM ajZ ?_
         exact dM M9 (hCont (lF) _ ⟨hHeld,aca,gB,gB,gB,BD.out,NZ.out,fw.out,nZ.out,lJ.out,lK.out,gL⟩)
        ·skip
         refine nV ?hg (N:=11) ?hd (cs:=#[U Z 0,U Z 0]) (t:=27) ?hr ?_;(case hd=>rfl);(case hg=>rfl);(case hr=>first|(go_simp;done)|(go_simp;rfl))
         intro lF hg w24 hbox hb
         have tX:=aa.mk (hbox)
         have BD:=bS HB hg
         have NZ:=bS HB hg
         have fw:=eQ jY hg
         have nZ:=eT jY hg
         have lJ:=eQ mG hg
         have lK:=eT mG hg
         replace yH:=aa.mk (Kd.mH (Kd.tK aca lF (Nat.le_of_eq hg.symm)) hb)
         replace jY:=aX jY hb
         replace mG:=aX mG hb
         replace HB:=cO HB hb
         clear hb hbox hg
         refine hK.out _ _ (qp jY.out ⟨(jJ HB wG),(jJ HB wF)⟩) (fun hHeld=>?_)
         clear hK K
         refine dM ajZ ?_
         refine iO (i:=5) (N:=some 23) #[ab,ab,ab,ab,ab,ab,ab,ac] rfl rfl (eH bz.out aM) (by decide) (fun K hK=>?_)
         refine gJ Try.func39 aM rfl #[.agg #[U Z ai,U Z aj,U Z aC,U Z aD,U Z aJ,U Z aH,U Z aK],.agg #[U Z ((bJ l2 fo).f0),U Z ((bJ l2 fo).f1)]] (by rfl) rfl rfl ji ?_
         with_reducible refine (eF.calls ai aj aC aD aJ aH aK ((bJ l2 fo).f0) ((bJ l2 fo).f1) DJ BC _ A8.out).mono ?_
         rintro e w25 ⟨rfl,hb⟩
         refine ⟨_,rfl,?_⟩
         replace yH:=zt yH hb
         replace jY:=aX jY hb
         replace mG:=aX mG hb
         replace tX:=aX tX hb
         replace HB:=cO HB hb
         (try clear hb)
         (try clear hb2)
         (try clear hk)
         (try clear hi)
         refine hK.out _ _ (qp jY.out ⟨(jJ HB wG),(jJ HB wF)⟩) (fun hHeld=>?_)
         clear hK K
         refine dM atz ?_
         exact dM M9 (hCont (lF) _ ⟨hHeld,aca,gB,gB,gB,BD.out,NZ.out,fw.out,nZ.out,lJ.out,lK.out,gL⟩)
       rintro lF xk ⟨hS_,h0_,h1_,h2_,h3_,h4_,h5_,h6_,h7_,h8_,h9_,Jo⟩
       have vD:aa (Kd.R k27 27 xk w.heap.size (fun k_=>k_≠tu∧k_≠lF) u9 tV):=⟨h0_⟩
       have vE:aa (xk.heap[jO]? = some (.cells #[U Z ai,U Z aj,U Z aC,U Z aD,U Z aJ,U Z aH,U Z aK] 29 (0,0))):=⟨h1_⟩
       have vF:aa (xk.heap[tu]? = some (.cells #[U Z jw,U Z j4] 27 (0,0))):=⟨h2_⟩
       have vG:aa (xk.heap[lF]? = some (.cells #[U Z 0,U Z 0] 27 (0,0))):=⟨h3_⟩
       have vY:aa (w.heap.size≤lF):=⟨h4_⟩
       have BP:aa (w.heap.size≤lF):=⟨h5_⟩
       have Jc:aa (jO≠lF):=⟨h6_⟩
       have Ld:aa (lF≠jO):=⟨h7_⟩
       have n8_:aa (tu≠lF):=⟨h8_⟩
       have n9_:aa (lF≠tu):=⟨h9_⟩
       have Jp:aa (Below w.heap.size w xk):=⟨Jo⟩
       clear yH jY mG HB
       clear h0_ h1_ h2_ h3_ h4_ h5_ h6_ h7_ h8_ h9_ Jo
       have yH:=vD
       have jY:=vE
       have mG:=vF
       have tX:=vG
       have BD:=vY
       have NZ:=BP
       have fw:=Jc
       have nZ:=Ld
       have lJ:=n8_
       have lK:=n9_
       have HB:=Jp
       clear vD vE vF vG vY BP Jc Ld n8_ n9_ Jp
       have hHeld:xk.cell? ⟨jO,0,none⟩ = some (U Z ai)∧xk.cell? ⟨jO,1,none⟩ = some (U Z aj)∧xk.cell? ⟨jO,2,none⟩ = some (U Z aC)∧xk.cell? ⟨jO,3,none⟩ = some (U Z aD)∧xk.cell? ⟨jO,4,none⟩ = some (U Z aJ)∧xk.cell? ⟨jO,5,none⟩ = some (U Z aH)∧xk.cell? ⟨jO,6,none⟩ = some (U Z aK)∧xk.cell? (yI.add ((fo).toNat*2)) = some (U Z ((bJ l2 fo).f0))∧xk.cell? ⟨(yI.add ((fo).toNat*2)).block,(yI.add ((fo).toNat*2)).off+1,none⟩ = some (U Z ((bJ l2 fo).f1)):=hS_
       refine dM (a':=?_) ?_ ?_
       rotate_left
       ·simp only [xC,Act.put,List.setIfInBounds_toArray,List.set_cons_zero,List.set_cons_succ]
        rfl
       refine iO (i:=7) (N:=none) #[ab,ab,ab,ab,ab,ab,ab,ab] rfl rfl (eH bz.out aM) (by decide) (fun K hK=>?_)
       have aW6:xk.cell? ⟨lF,0,none⟩ = some (U Z 0):=(ah tX.out 0).trans rfl
       have aDl:=bf tX.out 0
       have ar0:=fw.out
       have ar1:=lJ.out
       have ar2:=nZ.out
       have ar3:=lK.out
       have aW7:xk.cell? ⟨lF,1,none⟩ = some (U Z 0):=(ah tX.out 1).trans rfl
       have aDm:=bf tX.out 1
       have ar4:=fw.out
       have ar5:=lJ.out
       have ar6:=nZ.out
       have ar7:=lK.out
       refine ve (w1:=?_) (by rfl) rfl ?_ ?_
       rotate_left
       ·go_simp
        rfl
       refine hK.out _ _ ⟨(bY fw ((bY fw (hHeld.1)))),(bY fw ((bY fw (hHeld.2.1)))),(bY fw ((bY fw (hHeld.2.2.1)))),(bY fw ((bY fw (hHeld.2.2.2.1)))),(bY fw ((bY fw (hHeld.2.2.2.2.1)))),(bY fw ((bY fw (hHeld.2.2.2.2.2.1)))),(bY fw ((bY fw (hHeld.2.2.2.2.2.2.1)))),((cell_far (p:=⟨lF,_,none⟩) atA _).trans (((cell_far (p:=⟨lF,_,none⟩) atA _).trans (hHeld.2.2.2.2.2.2.2.1)))),((cell_far (p:=⟨lF,_,none⟩) atB _).trans (((cell_far (p:=⟨lF,_,none⟩) atB _).trans (hHeld.2.2.2.2.2.2.2.2))))⟩ (fun hHeld=>?_)
       clear hK K
       refine jS (ja bz.out aM) ?_
       have axm:=Wn.out
       have axn:=Wm.out
       have abZ:=lJ.out
       have ab0:=lK.out
       obtain ⟨Sq,Sr,Su,Sv⟩:=iZ mG.out
       have axo:=nZ.out
       have axp:=fw.out
       obtain ⟨Bg,Bh,Bi,Bj⟩:=iZ tX.out
       obtain ⟨EH,EI,NP,NQ,Sw,Sy,Sz,EJ,EK,NR,NS,SA,SB,SC⟩:=jF jY.out
       try go_wp2_with (first|((with_reducible refine yG (b:=.append) (xs:=#[.tmp 41,.tmp 43]) rfl ?_);at_builtin;refine Kd.Je k27 (w0:=w) w.heap.size rfl (.tmp 41) (.tmp 43) 66 27 (.agg #[(U Z 0),(U Z 0)]) 16 rfl Try.underlying66 anA rfl (by decide) (by omega) u9 tV (⟨wrap64 (jw - BC),wrap64 (j4 - DJ)⟩:ky) [U Z (wrap64 (jw - BC)),U Z (wrap64 (j4 - DJ))] (fun k_=>k_≠tu∧k_≠lF) (fun _=>False) rfl fG ?aP (fun _ hk=>hk.elim) ?aF ?aO ?aB ?aS ?aL ?_;(case aP=>exact yL _ _ _ (⟨wrap64 (jw - BC),wrap64 (j4 - DJ)⟩:ky));(case aB=>exact gL);(case aF=>exact (fun k_ hk=>⟨Kd.WN (g:=tu) (o:=.cells #[U Z (wrap64 (jw - BC)),U Z (wrap64 (j4 - DJ))] 27 (0,0)) (by (with_reducible repeat (first|refine av ?_ _|refine ag ?_|refine af ?_ _));refine aN (cs:=#[U Z (wrap64 (jw - BC)),U Z j4]) ?_ 1 _ rfl;(with_reducible repeat (first|refine av ?_ _|refine ag ?_|refine af ?_ _));refine aN (cs:=#[U Z jw,U Z j4]) ?_ 0 _ rfl;(with_reducible repeat (first|refine av ?_ _|refine ag ?_|refine af ?_ _));refine aV ?_ lJ.out _;(with_reducible repeat (first|refine av ?_ _|refine ag ?_|refine af ?_ _));refine aV ?_ lJ.out _;(with_reducible repeat (first|refine av ?_ _|refine ag ?_|refine af ?_ _));exact mG.out) k_ hk,Kd.WN (g:=lF) (o:=.cells #[U Z DJ,U Z BC] 27 (0,0)) (by (with_reducible repeat (first|refine av ?_ _|refine ag ?_|refine af ?_ _));refine aV ?_ lK.out _;(with_reducible repeat (first|refine av ?_ _|refine ag ?_|refine af ?_ _));refine aV ?_ lK.out _;(with_reducible repeat (first|refine av ?_ _|refine ag ?_|refine af ?_ _));refine aN (cs:=#[U Z DJ,U Z 0]) ?_ 1 _ rfl;(with_reducible repeat (first|refine av ?_ _|refine ag ?_|refine af ?_ _));refine aN (cs:=#[U Z 0,U Z 0]) ?_ 0 _ rfl;(with_reducible repeat (first|refine av ?_ _|refine ag ?_|refine af ?_ _));exact tX.out) k_ hk⟩));(case aO=>exact (by (with_reducible repeat (first|apply Kd.mY|apply Kd.mZ|apply Kd.mg));exact Kd.mM (Kd.fA (p:=⟨tu,1,none⟩) (Kd.fA (p:=⟨tu,0,none⟩) (Kd.fA (p:=⟨lF,1,none⟩) (Kd.fA (p:=⟨lF,0,none⟩) (Kd.mM (Kd.mM yH.out (fun k_ hk=>(⟨hk,hk.2⟩:_∧k_≠lF))) (fun k_ hk=>(⟨hk,hk.1.1⟩:_∧k_≠tu))) (fun _ hk=>hk.1.2) (U Z DJ)) (fun _ hk=>hk.1.2) (U Z BC)) (fun _ hk=>hk.2) (U Z (wrap64 (jw - BC)))) (fun _ hk=>hk.2) (U Z (wrap64 (j4 - DJ)))) (fun _ hk=>⟨hk.1.1.1,hk.1.1.2⟩)));(case aS=>exact (iq gL));(case aL=>have:=aDL.out;omega);intro a7h w35 ho hb hg hat;rw [← aDN.out] at ho;have vD:=aa.mk (oz (g:=jO) (o:=.cells #[U Z ai,U Z aj,U Z aC,U Z aD,U Z aJ,U Z aH,U Z aK] 29 (0,0)) gB hg (Kd.adz yH.out jY.out (by decide)));have vE:=aa.mk (oz (g:=tu) (o:=.cells #[U Z (wrap64 (jw - BC)),U Z (wrap64 (j4 - DJ))] 27 (0,0)) (by (with_reducible repeat (first|refine av ?_ _|refine ag ?_|refine af ?_ _));refine aN (cs:=#[U Z (wrap64 (jw - BC)),U Z j4]) ?_ 1 _ rfl;(with_reducible repeat (first|refine av ?_ _|refine ag ?_|refine af ?_ _));refine aN (cs:=#[U Z jw,U Z j4]) ?_ 0 _ rfl;(with_reducible repeat (first|refine av ?_ _|refine ag ?_|refine af ?_ _));refine aV ?_ lJ.out _;(with_reducible repeat (first|refine av ?_ _|refine ag ?_|refine af ?_ _));refine aV ?_ lJ.out _;(with_reducible repeat (first|refine av ?_ _|refine ag ?_|refine af ?_ _));exact mG.out) hg (Kd.WM yH.out (fun _ hk=>hk.1)));have vF:=aa.mk (oz (g:=lF) (o:=.cells #[U Z DJ,U Z BC] 27 (0,0)) (by (with_reducible repeat (first|refine av ?_ _|refine ag ?_|refine af ?_ _));refine aV ?_ lK.out _;(with_reducible repeat (first|refine av ?_ _|refine ag ?_|refine af ?_ _));refine aV ?_ lK.out _;(with_reducible repeat (first|refine av ?_ _|refine ag ?_|refine af ?_ _));refine aN (cs:=#[U Z DJ,U Z 0]) ?_ 1 _ rfl;(with_reducible repeat (first|refine av ?_ _|refine ag ?_|refine af ?_ _));refine aN (cs:=#[U Z 0,U Z 0]) ?_ 0 _ rfl;(with_reducible repeat (first|refine av ?_ _|refine ag ?_|refine af ?_ _));exact tX.out) hg (Kd.WM yH.out (fun _ hk=>hk.2)));have vG:=aa.mk (hb);have vY:=aa.mk (ho);clear jY;clear mG;clear tX;clear HB;clear yH;have jY:=vD;have mG:=vE;have tX:=vF;have HB:=vG;have aDO:=vY;clear vD vE vF vG vY;clear ho hb hg hat))
       go_roundg k1
       case measure=>have:=JP.out;omega
       case rel=>exact ⟨(aDM),(wrap64 (fo+1)),(wrap64 (jw - BC)),(wrap64 (j4 - DJ)),nM,H',⟨Mi⟩,⟨by (with_reducible repeat (first|apply Kd.mY|apply Kd.mZ|apply Kd.mg));exact Kd.mM aDO.out (fun _ hk=>hk.1)⟩,⟨gB⟩,⟨gB⟩,⟨gL⟩⟩
      ·rw [if_neg XL] at H
       exact absurd H (by simp)
    ·rw [if_neg c7] at H
     exact absurd H (by simp)
   ·rw [if_neg c6] at H
    have GX:decide (fo < (l2.length:Int)) = false:=decide_eq_false c6
    clear c6
    simp only [Option.some.injEq,Prod.mk.injEq] at H
    obtain ⟨rfl,rfl,rfl⟩:=H
    go_wp2
    go_ret3
    exact ⟨_,lW,by (with_reducible repeat (first|apply Kd.mY|apply Kd.mZ|apply Kd.mg));exact Kd.mM yH.out (fun _ hk=>trivial),gL⟩
mutual
def dC.j0:Nat→Bool→Int→Int→Int→Int→Option (Int × Int)
 |0,_,_,_,_,_=>none
 |k+1,Lg,N7,N8,N9,Oa=>if Lg = true then (some (0,2)) else (if N7 ≥ N9 then (dC.j1 k (decide (N8≤Oa)) N7 N8 N9 Oa) else (dC.j1 k false N7 N8 N9 Oa))
def dC.j1:Nat→Bool→Int→Int→Int→Int→Option (Int × Int)
 |0,_,_,_,_,_=>none
 |k+1,x25,N7,N8,N9,Oa=>if x25 = true then (some (2,0)) else (if N8 < N9 then (some (0,0)) else (if N7 > Oa then (some (0,0)) else (some (1,0))))
end
def dC.f (k:Nat) (ai:Int) (aj:Int) (aI:Int) (aG:Int):Option (Int × Int):=(bU.f ai aj).bind fun akU=>(if akU = true then ((bU.f aI aG).bind fun Uz=>(dC.j0 k (!Uz) ai aj aI aG)) else (dC.j0 k true ai aj aI aG))
set_option maxHeartbeats 8000000 in
set_option maxRecDepth 100000 in
theorem dC.calls (k:Nat) (ai:Int) (aj:Int) (aI:Int) (aG:Int) (r1:Int) (r2:Int) (w:World) (h:dC.f k ai aj aI aG = some (r1,r2)):
 Calls Try.prog 91 #[.agg #[U Z ai,U Z aj],.agg #[U Z aI,U Z aG]] w fun e w'=>e = .returned (.tuple #[U Z r1,U Z r2])∧Below w.heap.size w w':=by
 have pz:=Try.underlying27
 have HB:=aa.mk (Below.refl w.heap.size w)
 have H:((bU.f ai aj).bind fun akU=>(if akU = true then ((bU.f aI aG).bind fun Uz=>(dC.j0 k (!Uz) ai aj aI aG)) else (dC.j0 k true ai aj aI aG))) = some (r1,r2):=h
 clear h
 have HC3:=aa.mk H
 clear H
 go_enter Try.func91,Try.ntmps91
 go_upto_region 1 with (first|((with_reducible refine aA (N:=2) rfl ?_);refine au (by rfl) (N:=2) (by rfl) (cs:=#[U Z ai,U Z aj]) (t:=27) fG ?_;intro axq hg w4 hbox hb;have yM:=aa.mk (hbox);have a3z:=bS HB hg;have a3A:=bS HB hg;replace HB:=cO HB hb;clear hb hbox hg)|((with_reducible refine aA (N:=3) rfl ?_);refine au (by rfl) (N:=3) (by rfl) (cs:=#[U Z aI,U Z aG]) (t:=27) fG ?_;intro axr hg w5 hbox hb;have EL:=aa.mk (hbox);have a3B:=bS HB hg;have a3C:=bS HB hg;have zO:=eQ yM hg;have zP:=eT yM hg;replace yM:=aX yM hb;replace HB:=cO HB hb;clear hb hbox hg))
 (try simp only [Act.put,List.setIfInBounds_toArray,List.set_cons_zero,List.set_cons_succ])
 go_cut [13] (fun v13 wc=>∃ (kq:Nat) (ahT:Bool),v13 = .bool ahT∧aa (dC.j0 kq ahT ai aj aI aG = some (r1,r2))∧aa (kq≤k)∧aa (wc.heap[axq]? = some (.cells #[U Z ai,U Z aj] 27 (0,0)))∧aa (wc.heap[axr]? = some (.cells #[U Z aI,U Z aG] 27 (0,0)))∧aa (Below w.heap.size w wc))
 case first =>
  have H:=HC3.out
  clear HC3
  replace H:=Option.bind_eq_some_iff.mp H
  obtain ⟨akU,QG,H⟩:=H
  replace H:(if akU = true then ((bU.f aI aG).bind fun Uz=>(dC.j0 k (!Uz) ai aj aI aG)) else (dC.j0 k true ai aj aI aG)) = some (r1,r2):=H
  have A6:=aa.mk QG
  clear QG
  by_cases c7:akU = true
  ·subst c7
   have H1:((bU.f aI aG).bind fun Uz=>(dC.j0 k (!Uz) ai aj aI aG)) = some (r1,r2):=by rw [if_pos rfl] at H;exact H
   clear H
   have H:=H1
   clear H1
   replace H:=Option.bind_eq_some_iff.mp H
   obtain ⟨Uz,QO,H⟩:=H
   replace H:(dC.j0 k (!Uz) ai aj aI aG) = some (r1,r2):=H
   have A8:=aa.mk QO
   clear QO
   have H':=aa.mk H
   clear H
   have aqJ:=zO.out
   have aqK:=zP.out
   obtain ⟨sV,sW,sZ,tq⟩:=iZ yM.out
   go_wp2_with (first|((with_reducible refine aQ (f:=111) rfl ?_);refine dn (some 7) rfl rfl Try.func111 aM rfl #[.agg #[U Z ai,U Z aj]] rfl ji ?_;(with_reducible refine (bU.calls ai aj true _ A6.out).mono ?_);rintro e w11 ⟨rfl,hb⟩;refine ⟨_,rfl,?_⟩;replace yM:=aX yM hb;replace EL:=aX EL hb;replace HB:=cO HB hb;(try clear hb);(try clear hb2);(try clear hk);(try clear hi);obtain ⟨o6,o7,o8,o9⟩:=iZ EL.out)|(go_at_call 111;(with_reducible refine (bU.calls aI aG Uz _ A8.out).mono ?_);rintro e FD ⟨rfl,hb⟩;replace yM:=aX yM hb;replace EL:=aX EL hb;replace HB:=cO HB hb;(try clear hb);(try clear hb2);(try clear hk);(try clear hi)))
   go_meet
   case rel=>exact ⟨_,(!Uz),nM,H',⟨zq7⟩,⟨gB⟩,⟨gB⟩,⟨gL⟩⟩
  ·replace c7:=Bool.eq_false_iff.mpr c7
   subst c7
   have H1:(dC.j0 k true ai aj aI aG) = some (r1,r2):=by rw [if_neg (show ¬ (false = true) by decide)] at H;exact H
   clear H
   have H:=H1
   clear H1
   have H':=aa.mk H
   clear H
   have afS:=zO.out
   have afT:=zP.out
   obtain ⟨oL,oM,oN,oO⟩:=iZ yM.out
   go_wp2_with (first|((with_reducible refine aQ (f:=111) rfl ?_);refine dn (some 7) rfl rfl Try.func111 aM rfl #[.agg #[U Z ai,U Z aj]] rfl ji ?_;(with_reducible refine (bU.calls ai aj false _ A6.out).mono ?_);rintro e w16 ⟨rfl,hb⟩;refine ⟨_,rfl,?_⟩;replace yM:=aX yM hb;replace EL:=aX EL hb;replace HB:=cO HB hb;(try clear hb);(try clear hb2);(try clear hk);(try clear hi)))
   go_meet
   case rel=>exact ⟨_,(true),nM,H',⟨zq7⟩,⟨gB⟩,⟨gB⟩,⟨gL⟩⟩
 case rest =>
  clear HC3
  try clear c1
  try clear p2
  try clear c7
  try clear c9
  try clear c11
  try clear c14
  try clear sV sW
  try clear o6 o7
  try clear oL oM
  try clear sZ tq
  try clear o8 o9
  try clear oN oO
  obtain ⟨kq,ahT,rfl,HA,HJ2,yM,EL,HB⟩:=hcut
  cases kq with
  |zero=>exact absurd HA.out (by simp [dC.j0])
  |succ kj2 =>
   have H:=HA.out
   clear HA
   simp only [dC.j0] at H
   by_cases c17:ahT = true
   ·subst c17
    have H1:(some (0,2)) = some (r1,r2):=by rw [if_pos rfl] at H;exact H
    clear H
    have H:=H1
    clear H1
    simp only [Option.some.injEq,Prod.mk.injEq] at H
    obtain ⟨rfl,rfl⟩:=H
    go_wp2
    go_ret2
    exact ⟨lW,gL⟩
   ·replace c17:=Bool.eq_false_iff.mpr c17
    subst c17
    have H1:(if ai ≥ aI then (dC.j1 kj2 (decide (aj≤aG)) ai aj aI aG) else (dC.j1 kj2 false ai aj aI aG)) = some (r1,r2):=by rw [if_neg (show ¬ (false = true) by decide)] at H;exact H
    clear H
    have H:=H1
    clear H1
    have azt:=aa.mk H
    clear H
    go_upto_region 3 with (fail)
    go_cut [25] (fun v25 wc=>∃ (kq:Nat) (YT:Bool),v25 = .bool YT∧aa (dC.j1 kq YT ai aj aI aG = some (r1,r2))∧aa (kq≤kj2)∧aa (wc.heap[axq]? = some (.cells #[U Z ai,U Z aj] 27 (0,0)))∧aa (wc.heap[axr]? = some (.cells #[U Z aI,U Z aG] 27 (0,0)))∧aa (Below w.heap.size w wc))
    case first =>
     have H:=azt.out
     clear azt
     by_cases c19:ai ≥ aI
     ·rw [if_pos c19] at H
      have Wo:decide (aI≤ai) = true:=decide_eq_true c19
      clear c19
      (first|rw [Wo]|(simp only [ib,ig];rw [Wo])|skip)
      have H':=aa.mk H
      clear H
      have anB:=zO.out
      have anC:=zP.out
      obtain ⟨xO,xP,xQ,xR⟩:=iZ yM.out
      obtain ⟨Ob,Oc,Od,Oe⟩:=iZ EL.out
      go_wp2
      go_meet
      case rel=>exact ⟨_,(decide (aj≤aG)),nM,H',⟨by have:=HJ2.out;first|omega|exact Nat.le_refl _⟩,⟨gB⟩,⟨gB⟩,⟨gL⟩⟩
     ·rw [if_neg c19] at H
      have Wo:decide (aI≤ai) = false:=decide_eq_false c19
      clear c19
      (first|rw [Wo]|(simp only [ib,ig];rw [Wo])|skip)
      have H':=aa.mk H
      clear H
      have Uq:=zO.out
      have Ur:=zP.out
      obtain ⟨rC,rD,rE,rF⟩:=iZ yM.out
      obtain ⟨Bc,Bd,Be,Bf⟩:=iZ EL.out
      go_wp2
      go_meet
      case rel=>exact ⟨_,(false),nM,H',⟨by have:=HJ2.out;first|omega|exact Nat.le_refl _⟩,⟨gB⟩,⟨gB⟩,⟨gL⟩⟩
    case rest =>
     clear azt
     try clear c1
     try clear c2
     try clear p2
     try clear c7
     try clear c9
     try clear c11
     try clear c14
     try clear c17
     try clear c19
     try clear Wo
     try clear c20
     try clear c23
     try clear sV sW
     try clear o6 o7
     try clear oL oM
     try clear xO xP
     try clear Ob Oc
     try clear rC rD
     try clear Bc Bd
     try clear sZ tq
     try clear o8 o9
     try clear oN oO
     try clear xQ xR
     try clear Od Oe
     try clear rE rF
     try clear Be Bf
     try clear p2
     obtain ⟨kq,YT,rfl,HA,a7i,yM,EL,HB⟩:=hcut
     cases kq with
     |zero=>exact absurd HA.out (by simp [dC.j1])
     |succ a7j =>
      have H:=HA.out
      clear HA
      simp only [dC.j1] at H
      by_cases RP:YT = true
      ·subst RP
       have H1:(some (2,0)) = some (r1,r2):=by rw [if_pos rfl] at H;exact H
       clear H
       have H:=H1
       clear H1
       simp only [Option.some.injEq,Prod.mk.injEq] at H
       obtain ⟨rfl,rfl⟩:=H
       go_wp2
       go_ret2
       exact ⟨lW,gL⟩
      ·replace RP:=Bool.eq_false_iff.mpr RP
       subst RP
       have H1:(if aj < aI then (some (0,0)) else (if ai > aG then (some (0,0)) else (some (1,0)))) = some (r1,r2):=by rw [if_neg (show ¬ (false = true) by decide)] at H;exact H
       clear H
       have H:=H1
       clear H1
       by_cases c27:aj < aI
       ·rw [if_pos c27] at H
        have aDP:decide (aj < aI) = true:=decide_eq_true c27
        clear c27
        simp only [Option.some.injEq,Prod.mk.injEq] at H
        obtain ⟨rfl,rfl⟩:=H
        have amC:=zO.out
        have amD:=zP.out
        obtain ⟨vZ,wh,wm,wo⟩:=iZ yM.out
        obtain ⟨ED,EE,EF,EG⟩:=iZ EL.out
        go_wp2
        go_ret2
        exact ⟨lW,gL⟩
       ·rw [if_neg c27] at H
        have aDP:decide (aj < aI) = false:=decide_eq_false c27
        clear c27
        by_cases c31:ai > aG
        ·rw [if_pos c31] at H
         have awL:decide (aG < ai) = true:=decide_eq_true c31
         clear c31
         simp only [Option.some.injEq,Prod.mk.injEq] at H
         obtain ⟨rfl,rfl⟩:=H
         have axo:=zO.out
         have axp:=zP.out
         obtain ⟨Bg,Bh,Bi,Bj⟩:=iZ yM.out
         obtain ⟨EH,EI,EJ,EK⟩:=iZ EL.out
         go_wp2
         go_ret2
         exact ⟨lW,gL⟩
        ·rw [if_neg c31] at H
         have awL:decide (aG < ai) = false:=decide_eq_false c31
         clear c31
         simp only [Option.some.injEq,Prod.mk.injEq] at H
         obtain ⟨rfl,rfl⟩:=H
         have anl:=zO.out
         have anm:=zP.out
         obtain ⟨ND,NF,NG,NH⟩:=iZ yM.out
         obtain ⟨YA,YB,YC,YD⟩:=iZ EL.out
         go_wp2
         go_ret2
         exact ⟨lW,gL⟩
def nL.f (k:Nat) (ai:Int) (aj:Int) (aC:Int) (aD:Int) (aI:Int) (aG:Int) (bn:Int) (bq:Int):Option (Int):=(dC.f k ai aj aI aG).bind fun anD=>((dC.f k aC aD bn bq).bind fun acd=>(some (mn anD.1 acd.1)))
set_option maxHeartbeats 8000000 in
set_option maxRecDepth 100000 in
theorem nL.calls (k:Nat) (ai:Int) (aj:Int) (aC:Int) (aD:Int) (aI:Int) (aG:Int) (bn:Int) (bq:Int) (r:Int) (w:World) (h:nL.f k ai aj aC aD aI aG bn bq = some r):
 Calls Try.prog 43 #[.agg #[U Z ai,U Z aj,U Z aC,U Z aD],.agg #[U Z aI,U Z aG,U Z bn,U Z bq]] w fun e w'=>e = .returned (U Z r)∧Below w.heap.size w w':=by
 have rO:=Try.underlying31
 have pz:=Try.underlying27
 have HB:=aa.mk (Below.refl w.heap.size w)
 have H:((dC.f k ai aj aI aG).bind fun anD=>((dC.f k aC aD bn bq).bind fun acd=>(some (mn anD.1 acd.1)))) = some r:=h
 clear h
 replace H:=Option.bind_eq_some_iff.mp H
 obtain ⟨⟨akV,aXf⟩,QH,H⟩:=H
 replace H:((dC.f k aC aD bn bq).bind fun acd=>(some (mn akV acd.1))) = some r:=H
 have A3:=aa.mk QH
 clear QH
 replace H:=Option.bind_eq_some_iff.mp H
 obtain ⟨⟨anE,aXg⟩,M0,H⟩:=H
 replace H:(some (mn akV anE)) = some r:=H
 have A4:=aa.mk M0
 clear M0
 obtain ⟨ji5,TQ⟩:∃ j_:Int,(mn akV anE) = j_:=⟨_,rfl⟩
 replace H:(some ji5) = some r:=by first|(rw [TQ] at H;exact H)|(simp only [TQ] at H ⊢;exact H)
 (try rw [TQ] at A3)
 (try rw [TQ] at A4)
 have aBr:(if anE < akV then anE else akV) = ji5:=TQ
 obtain rfl:=Option.some.inj H
 go_enter Try.func43,Try.ntmps43
 go_wp2_with (first|((with_reducible refine aA (N:=2) rfl ?_);refine au (by rfl) (N:=2) (by rfl) (cs:=#[U Z ai,U Z aj,U Z aC,U Z aD]) (t:=31) fG ?_;intro a3D hg w6 hbox hb;have LJ:=aa.mk (hbox);have a3E:=bS HB hg;have a3F:=bS HB hg;replace HB:=cO HB hb;clear hb hbox hg)|((with_reducible refine aA (N:=3) rfl ?_);refine au (by rfl) (N:=3) (by rfl) (cs:=#[U Z aI,U Z aG,U Z bn,U Z bq]) (t:=31) fG ?_;intro a3G hg w7 hbox hb;have Wp:=aa.mk (hbox);have a3H:=bS HB hg;have a3I:=bS HB hg;have akW:=eQ LJ hg;have akX:=eT LJ hg;replace LJ:=aX LJ hb;replace HB:=cO HB hb;clear hb hbox hg;have abB:=akW.out;have abC:=akX.out;obtain ⟨zu,zw,G8,G9,zx,zy,Ha,Hd⟩:=jc LJ.out;obtain ⟨sV,sW,JQ,JR,sZ,tq,JS,JU⟩:=jc Wp.out)|((with_reducible refine aQ (f:=91) rfl ?_);refine dn (some 14) rfl rfl Try.func91 aM rfl #[.agg #[U Z ai,U Z aj],.agg #[U Z aI,U Z aG]] rfl ji ?_;(with_reducible refine (dC.calls k ai aj aI aG akV aXf _ A3.out).mono ?_);rintro e w11 ⟨rfl,hb⟩;refine ⟨_,rfl,?_⟩;replace LJ:=aX LJ hb;replace Wp:=aX Wp hb;replace HB:=cO HB hb;(try clear hb);(try clear hb2);(try clear hk);(try clear hi);obtain ⟨o6,o7,JD,JE,o8,o9,JF,JG⟩:=jc LJ.out;obtain ⟨ug,uh,Aw,Ay,ui,uj,Az,AA⟩:=jc Wp.out)|((with_reducible refine aQ (f:=91) rfl ?_);refine dn (some 22) rfl rfl Try.func91 aM rfl #[.agg #[U Z aC,U Z aD],.agg #[U Z bn,U Z bq]] rfl ji ?_;(with_reducible refine (dC.calls k aC aD bn bq anE aXg _ A4.out).mono ?_);rintro e w14 ⟨rfl,hb⟩;refine ⟨_,rfl,?_⟩;replace LJ:=aX LJ hb;replace Wp:=aX Wp hb;replace HB:=cO HB hb;(try clear hb);(try clear hb2);(try clear hk);(try clear hi)))
 go_ret
 exact ⟨by first|rfl|(simp [kX,kY] <;> rfl)|(simp only [← TQ];first|rfl|(simp [kX,kY] <;> rfl))|(simp [*,kX,kY] <;> rfl),gL⟩
end Go.Proofs.Ytmhaiihjfgfaoaa.Pr
end
