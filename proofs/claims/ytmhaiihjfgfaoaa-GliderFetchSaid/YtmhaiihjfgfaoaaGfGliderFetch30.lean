import Derived.Test.YtmhaiihjfgfaoaaGfGliderFetch3
import Derived.Test.YtmhaiihjfgfaoaaGfGliderFetch16
set_option linter.unusedVariables false
set_option linter.unusedSimpArgs false
open Go.Value renaming int → U
open Go.IntKind renaming i64 → Z
open Bool renaming true → ab, false → ac
section
namespace Go.Proofs.Ytmhaiihjfgfaoaa.Gl
open Go.RowKit Go.Shelf Go.Proofs.YtmhaiihjfgfaoaaW.PrintWords Go.Proofs.YtmhaiihjfgfaoaaW.PrintLast Go.Proofs.YtmhaiihjfgfaoaaW.PrintMore Go.Proofs.Ytmhaiihjfgfaoaa.Pr Go.Proofs.YtmhaiihjfgfaoaaW.Round
set_option linter.unusedVariables false
set_option linter.unusedSimpArgs false
attribute [local go_sem] gp gq iA iB gu
def uJ (s:oJ) (v:tF):List xN→jf→Int→Int→List jf→List jf × Int × Int
 |[],_,_,n,out=>(out,n,0)
 |c :: l,x,t,n,out=>if qz s v x t≠0 then ([],n,qz s v x t) else uJ s v l (oP s v x t c.f0 c.f1) (t+v.dive) (n+1) (out++[oP s v x t c.f0 c.f1])
def au1 (R:List jf × Int × Int) (w:World) (e:Ending) (w':World):Prop:=∃ v0_:Value,e = .returned (.tuple #[v0_,U Z R.2.1,U Z R.2.2])∧Kd.R k31 31 w' w.heap.size (fun _=>True) v0_ R.1∧Below w.heap.size w w'
theorem ZE {l:List xN} {layers:Int} (h:FE l layers = 0):l.length≤64∧l.all (GY layers) = true:=by
 unfold FE at h
 by_cases h1:l.length > 64
 ·rw [if_pos h1] at h;cases h
 ·rw [if_neg h1] at h
  cases hb:l.all (GY layers) with
  |false=>rw [hb] at h;cases h
  |true=>exact ⟨by omega,rfl⟩
theorem ZF {layers:Int} {c:xN} (hl:1≤layers) (h:GY layers c = true):(0≤c.f0∧c.f0≤8)∧0≤c.f1∧c.f1 < layers:=by
 unfold GY at h
 simp only [Bool.and_eq_true,Bool.or_eq_true,decide_eq_true_eq,jC] at h
 omega
set_option maxRecDepth 100000 in
set_option maxHeartbeats 8000000 in
theorem au2 (b:Nat) (s:oJ) (v:tF) (x:jf) (t:Int) (A:Option Addr) (c:Nat) (l:List xN) (w:World) (hT:nX w b s v) (hS:Va s) (hV:Fy v) (hx:xD x) (ht0:0≤t) (ht1:t≤1073741824) (hC:Kd.C k33 w A l.length l) (hc:l.length≤c) (hl:l.length≤64) (hall:l.all (GY s.layers) = true):
 Calls Try.prog 83 #[.pointer (some ⟨b,0,none⟩),.agg #[U Z x.f0.f0,U Z x.f0.f1,U Z x.f1.f0,U Z x.f1.f1],U Z t,.slice A l.length c] w (au1 (uJ s v l x t 0 []) w):=by
 have rO:=Try.underlying31
 have MV:=Try.underlying33
 have pz:=Try.underlying27
 have Br:=Try.underlying29
 have BV:=Try.underlying25
 have aBN:=Try.underlying110
 have HALL:=Lib.hid hall
 clear hall
 go_enter Try.func83,Try.ntmps83
 go_wp2_with fail
 have m5:jh (w.alloc (.cells #[U Z x.f0.f0,U Z x.f0.f1,U Z x.f1.f0,U Z x.f1.f1] 31)) (w.heap.size) #[U Z x.f0.f0,U Z x.f0.f1,U Z x.f1.f0,U Z x.f1.f1] 31:=al4
 have mB:Below w.heap.size w (w.alloc (.cells #[U Z x.f0.f0,U Z x.f0.f1,U Z x.f1.f0,U Z x.f1.f1] 31)):=(bA (Below.refl w.heap.size w) _)
 have oI:w.heap.size≤w.heap.size:=Nat.le_refl _
 generalize yX:(w.alloc (.cells #[U Z x.f0.f0,U Z x.f0.f1,U Z x.f1.f0,U Z x.f1.f1] 31)) = W1 at m5 mB ⊢
 clear yX
 generalize hg5:w.heap.size = g5 at m5 ⊢
 have hG5:w.heap.size≤g5:=by omega
 clear oI
 try clear hg5
 have DR:w.heap.size≤W1.heap.size:=mB.size
 go_wp2
 go_loopw [2,11,18] (fun tt o i wr=>∃ (k:Nat) (v_:Value) (X:jf) (T:Int) (out:List jf),tt = U Z T∧v_ = o∧i = U Z k∧k≤l.length∧Hid (uJ s v l x t 0 [] = uJ s v (l.drop k) X T k out)∧Hid (out.length = k∧xD X∧0≤T∧T≤1073741824+(k:Int)*131072)∧jh wr g5 #[U Z X.f0.f0,U Z X.f0.f1,U Z X.f1.f0,U Z X.f1.f1] 31∧Kd.R k31 31 wr w.heap.size (fun q=>q≠g5) v_ out∧Below w.heap.size w wr) (fun _ _ i _=>l.length - (intOf i).toNat)
 case atStart=>exact ⟨0,_,x,t,[],rfl,rfl,rfl,Nat.zero_le _,Lib.hid rfl,Lib.hid ⟨rfl,hx,ht0,by omega⟩,m5,Kd.aaG _ _ _ _ _,mB⟩
 case round =>
  clear m5 mB hx ht0 ht1
  obtain ⟨k,v_,X,T,out,rfl,rfl,rfl,hk,HR,HQ,m5,HO,mB⟩:=hrel
  have an8:w.heap.size≤wr.heap.size:=mB.size
  by_cases hlt:k < l.length
  case neg =>
   obtain rfl:k = l.length:=by omega
   have HE:=HR.out
   rw [List.drop_length] at HE
   have HE2:Hid (uJ s v l x t 0 [] = (out,(l.length:Int),0)):=Lib.hid HE
   clear HE HR HQ
   go_wp2
   go_ret3
   exact ⟨_,by rw [HE2.out];rfl,by rw [HE2.out];exact Kd.mM HO (fun _ _=>trivial),mB⟩
  case pos =>
   obtain ⟨ad_,e_,hx0,hx1⟩:=kE hC k (by omega) (by omega)
   cases e_
   simp only [Int.toNat_natCast] at hx0 hx1
   replace hx0:=(mB.cell (World.block_lt_of_cell? w _ hx0)).trans hx0
   replace hx1:=(mB.cell (World.block_lt_of_cell? w _ hx1)).trans hx1
   have hdr:l.drop k = bJ l (k:Int) :: l.drop (k+1):=by rw [List.drop_eq_getElem_cons hlt];simp [bJ,List.getD_eq_getElem?_getD,hlt]
   have hmem:bJ l (k:Int) ∈ l:=List.mem_of_getElem? (i:=k) (by simp [bJ,List.getD_eq_getElem?_getD,hlt])
   have hcr:=ZF hS.n.layers.1 (List.all_eq_true.1 HALL.out _ hmem)
   clear hmem
   generalize bJ l (k:Int) = d at*
   have HR2:Hid (uJ s v l x t 0 [] = if qz s v X T≠0 then ([],(k:Int),qz s v X T) else uJ s v (l.drop (k+1)) (oP s v X T d.f0 d.f1) (T+v.dive) ((k:Int)+1) (out++[oP s v X T d.f0 d.f1])):=Lib.hid (by rw [HR.out,hdr];rfl)
   clear HR hdr
   obtain ⟨hol,hX,hT0,hT1⟩:=HQ.out
   obtain ⟨⟨hh0,hh1⟩,hl0,hl1⟩:=hcr
   have hdb:=fun h=>TW (t:=T) (hd:=d.f0) (layer:=d.f1) hS hV hX h
   have hdv:=hV.dive
   have HDV:=Lib.hid hdv
   clear HQ
   have kD:=fun W (h:nX W b s v)=>aa4 b s v X T d.f0 d.f1 W h hS hV hX hT0 (by omega) hh0 hh1 hl0 hl1
   have HQ1:Hid (out.length = k∧0≤T∧T≤1073741824+(k:Int)*131072∧(qz s v X T = 0→xD (oP s v X T d.f0 d.f1))):=Lib.hid ⟨hol,hT0,hT1,hdb⟩
   clear hol hX hT0 hT1 hh0 hh1 hl0 hl1 hdb hdv
   generalize oP s v X T d.f0 d.f1 = Y at*
   generalize qz s v X T = E at*
   have Q4:∀ o_,(wr.alloc o_).cell? ⟨g5,0,none⟩ = some (U Z X.f0.f0):=fun o_=>(ah (af m5 o_) 0).trans rfl
   have TK:∀ o_,(wr.alloc o_).cell? ⟨g5,1,none⟩ = some (U Z X.f0.f1):=fun o_=>(ah (af m5 o_) 1).trans rfl
   have ama:∀ o_,(wr.alloc o_).cell? ⟨g5,2,none⟩ = some (U Z X.f1.f0):=fun o_=>(ah (af m5 o_) 2).trans rfl
   have amb:∀ o_,(wr.alloc o_).cell? ⟨g5,3,none⟩ = some (U Z X.f1.f1):=fun o_=>(ah (af m5 o_) 3).trans rfl
   go_wp2_with fail
   clear Q4 TK ama amb
   clear hx0 hx1
   replace HO:=Kd.mH HO (bA (Below.refl wr.heap.size wr) (.cells #[U Z d.f0,U Z d.f1] 33))
   have O6:=eG m5
   have m13:jh (wr.alloc (.cells #[U Z d.f0,U Z d.f1] 33)) (wr.heap.size) #[U Z d.f0,U Z d.f1] 33:=aGK
   replace m5:jh (wr.alloc (.cells #[U Z d.f0,U Z d.f1] 33)) g5 #[U Z X.f0.f0,U Z X.f0.f1,U Z X.f1.f0,U Z X.f1.f1] 31:=(af m5 _)
   replace mB:Below w.heap.size w (wr.alloc (.cells #[U Z d.f0,U Z d.f1] 33)):=(bA mB _)
   have oI:w.heap.size≤wr.heap.size:=an8
   generalize yX:(wr.alloc (.cells #[U Z d.f0,U Z d.f1] 33)) = W2 at m5 m13 mB HO ⊢
   clear yX
   generalize az8:wr.heap.size = g13 at m13 ⊢
   have au4:g5≠g13:=by omega
   have aUj:g13≠g5:=au4.symm
   have aX9:w.heap.size≤g13:=by omega
   clear oI O6
   try clear az8
   have Dl:w.heap.size≤W2.heap.size:=mB.size
   have hcon:=kD W2 (hT.below mB)
   clear kD
   (with_reducible refine hcon.mono ?_)
   clear hcon
   rintro e W3 ⟨rfl,hb⟩
   replace HO:=Kd.mH HO hb
   replace m5:=aU m5 hb
   replace m13:=aU m13 hb
   replace mB:=dY mB hb
   clear hb
   have LA:w.heap.size≤W3.heap.size:=mB.size
   by_cases hE:E = 0
   case neg =>
    have HZ:=Lib.hid (HR2.out.trans (if_pos hE))
    have hd1:(E == 0) = false:=beq_eq_false_iff_ne.2 hE
    have hd2:(E != 0) = true:=by rw [bne,hd1];rfl
    clear hE HR2 HQ1
    go_wp2
    go_ret3
    exact ⟨_,yY,by rw [HZ.out];exact Kd.aaG _ _ _ _ _,by repeat (first|exact mB|apply bA)⟩
   case pos =>
    have HR3:=Lib.hid (HR2.out.trans (if_neg (fun h=>h hE)))
    have HQ2:Hid (out.length = k∧0≤T∧T≤1073741824+(k:Int)*131072∧xD Y):=Lib.hid ⟨HQ1.out.1,HQ1.out.2.1,HQ1.out.2.2.1,HQ1.out.2.2.2 hE⟩
    clear HR2 HQ1
    subst hE
    have aGS:=eG m5
    have hol:Hid ((out.length+1)*32≤140737488355328):=Lib.hid (by have:=HQ2.out.1;omega)
    have hne5:some g5≠v_.ownBlock:=fun h=>HO.1 g5 h.symm rfl
    have axz:some W3.heap.size≠v_.ownBlock:=fun h=>by have:=Kd.alx HO _ h.symm;omega
    go_wp2_with (first|((with_reducible refine yG (b:=.append) (xs:=#[.tmp 35,.tmp 37]) rfl ?_);(try (refine oW (by rfl) ?_;dsimp only));at_builtin;go_loud (refine Kd.Je k31 (w0:=w) w.heap.size rfl (.tmp 35) (.tmp 37) 50 31 (.agg #[U Z 0,U Z 0,U Z 0,U Z 0]) 32 rfl Try.underlying50 anz rfl (by decide) (by decide) v_ out Y [U Z Y.f0.f0,U Z Y.f0.f1,U Z Y.f1.f0,U Z Y.f1.f1] (fun q=>q≠g5) (fun _=>False) rfl (by first|rfl|(go_simp;done)|(go_simp;rfl)) ?aP (fun _ hk=>hk.elim) ?aF ?aO ?aB ?aS ?aL ?_);(case aP=>exact ahL _ _ _ Y);(case aF=>exact (fun q hq=>by have h_:=eG m5;simp only [World.size_alloc] at hq;omega));(case aO=>exact Kd.mH HO (bA (Below.refl _ _) _));(case aB=>exact bA mB _);(case aS=>(have h_:=mB.size;simp only [World.size_alloc];omega));(case aL=>exact hol.out);intro v1 w1 HO1 hB1 hgr hat))
    replace m5:=oz (af m5 _) hgr hne5
    have m14:=oz (gT W3 (.cells #[U Z Y.f0.f0,U Z Y.f0.f1,U Z Y.f1.f0,U Z Y.f1.f1] 31)) hgr axz
    have MS:g5≠W3.heap.size:=by have h_:=aGS;omega
    clear aGS
    clear hgr hat HO hne5 axz m13 mB hol
    generalize ayo:W3.heap.size = g14 at m14 MS ⊢
    have pg:=MS.symm
    clear ayo
    have mB:=hB1
    clear hB1
    obtain ⟨A7,c7,A8,c8,mT,_⟩:=hT.below mB
    replace m5:=ag m5
    replace m14:=ag m14
    replace mT:=ag mT
    replace mB:=bO mB
    replace HO1:=Kd.mH HO1 (bO (Below.refl w1.heap.size w1))
    have hbn:b≠g5:=by have h_:=hT;obtain ⟨_,_,_,_,h_,_⟩:=h_;have h2_:=(Array.getElem?_eq_some_iff.1 h_).1;omega
    refine iN (n:=10) (S:=fun w'=>w'.cell? ⟨g14,0,none⟩ = some (U Z Y.f0.f0)∧w'.cell? ⟨g14,1,none⟩ = some (U Z Y.f0.f1)∧w'.cell? ⟨g14,2,none⟩ = some (U Z Y.f1.f0)∧w'.cell? ⟨g14,3,none⟩ = some (U Z Y.f1.f1)∧w'.cell? ⟨b,10,none⟩ = some (U Z v.dive)) (ds:=[]) #[ac,ac,ac,ac,ac,ac,ac,ac,ac,ac] aM rfl rfl ⟨((ah m14 0).trans rfl),((ah m14 1).trans rfl),((ah m14 2).trans rfl),((ah m14 3).trans rfl),((ah mT 10).trans rfl)⟩ (fun hHeld=>?_)
    generalize hWd:World.drew _ = Wx at*
    clear hWd
    refine bV (i:=1) (N:=some 40) aM ?_
    refine bV (i:=2) (N:=some 41) aM ?_
    refine bV (i:=3) (N:=some 42) aM ?_
    refine bV (i:=4) (N:=some 43) aM ?_
    refine bV (i:=5) (N:=some 44) aM ?_
    refine iL (i:=0) (N:=some 39) aM hHeld ?_
    refine iL (i:=6) (N:=some 45) aM hHeld ?_
    refine bV (i:=7) (N:=some 46) aM ?_
    refine iO (i:=8) (N:=none) #[ab,ab,ab,ab,ab,ab,ab,ab,ab,ac] rfl rfl aM (by decide) (fun K hK=>?_)
    have U5:=bf m5 0
    have U6:=bf m5 1
    have ap6:=bf m5 2
    have ap7:=bf m5 3
    have Q0:=(ah m5 0).trans rfl
    have U7:=(ah m5 1).trans rfl
    have ap8:=(ah m5 2).trans rfl
    have ap9:=(ah m5 3).trans rfl
    refine ve (w1:=?_) (by rfl) rfl ?_ ?_
    rotate_left
    ·go_simp
     rfl
    refine hK.out _ _ ⟨((ah (aV (p:=⟨g5,3,none⟩) (aV (p:=⟨g5,2,none⟩) (aV (p:=⟨g5,1,none⟩) (aV (p:=⟨g5,0,none⟩) m14 pg _) pg _) pg _) pg _) 0).trans rfl),((ah (aV (p:=⟨g5,3,none⟩) (aV (p:=⟨g5,2,none⟩) (aV (p:=⟨g5,1,none⟩) (aV (p:=⟨g5,0,none⟩) m14 pg _) pg _) pg _) pg _) 1).trans rfl),((ah (aV (p:=⟨g5,3,none⟩) (aV (p:=⟨g5,2,none⟩) (aV (p:=⟨g5,1,none⟩) (aV (p:=⟨g5,0,none⟩) m14 pg _) pg _) pg _) pg _) 2).trans rfl),((ah (aV (p:=⟨g5,3,none⟩) (aV (p:=⟨g5,2,none⟩) (aV (p:=⟨g5,1,none⟩) (aV (p:=⟨g5,0,none⟩) m14 pg _) pg _) pg _) pg _) 3).trans rfl),((ah (aV (p:=⟨g5,3,none⟩) (aV (p:=⟨g5,2,none⟩) (aV (p:=⟨g5,1,none⟩) (aV (p:=⟨g5,0,none⟩) mT hbn _) hbn _) hbn _) hbn _) 10).trans rfl)⟩ (fun hHeld=>?_)
    clear hK K
    refine bV (i:=9) (N:=some 2) aM ?_
    refine jS aM ?_
    go_wp2
    go_roundw
    case rel =>
     have hq:=HQ2.out
     have hv:=HDV.out
     have hwr:wrap64 (T+v.dive) = T+v.dive:=by unfold wrap64;omega
     exact ⟨k+1,v1,Y,T+v.dive,out++[Y],by rw [hwr],rfl,by simp,by omega,Lib.hid HR3.out,Lib.hid ⟨by rw [List.length_append];simp;omega,hq.2.2.2,by omega,by omega⟩,(aN (aN (aN (aN m5 0 (U Z Y.f0.f0) rfl) 1 (U Z Y.f0.f1) rfl) 2 (U Z Y.f1.f0) rfl) 3 (U Z Y.f1.f1) rfl),(Kd.fA (p:=⟨g5,3,none⟩) (Kd.fA (p:=⟨g5,2,none⟩) (Kd.fA (p:=⟨g5,1,none⟩) (Kd.fA (p:=⟨g5,0,none⟩) HO1 (fun _ hk=>hk) _) (fun _ hk=>hk) _) (fun _ hk=>hk) _) (fun _ hk=>hk) _),(Below.setCell (p:=⟨g5,3,none⟩) (Below.setCell (p:=⟨g5,2,none⟩) (Below.setCell (p:=⟨g5,1,none⟩) (Below.setCell (p:=⟨g5,0,none⟩) mB hG5 _) hG5 _) hG5 _) hG5 _)⟩
    case measure=>simp [intOf];omega
end Go.Proofs.Ytmhaiihjfgfaoaa.Gl
end
section
namespace Go.Proofs.Ytmhaiihjfgfaoaa.Pr
open Go.RowKit Go.Proofs.YtmhaiihjfgfaoaaW.PrintWords Go.Proofs.YtmhaiihjfgfaoaaW.PrintLast Go.Proofs.YtmhaiihjfgfaoaaW.PrintMore
attribute [local go_sem] gp gq iA iB gu
set_option linter.unusedVariables false
set_option linter.unusedSimpArgs false
def CX.f (ai:Int) (aj:Int) (aC:Int) (aD:Int) (aJ:Int) (aH:Int) (aK:Int) (aI:Int) (aG:Int):Option (Int × Int):=if aI = 8 then (some (aJ,aH)) else (some (aC,aD))
set_option maxHeartbeats 8000000 in
set_option maxRecDepth 100000 in
theorem CX.calls (ai:Int) (aj:Int) (aC:Int) (aD:Int) (aJ:Int) (aH:Int) (aK:Int) (aI:Int) (aG:Int) (r1:Int) (r2:Int) (w:World) (h:CX.f ai aj aC aD aJ aH aK aI aG = some (r1,r2)):
 Calls Try.prog 109 #[.agg #[U Z ai,U Z aj,U Z aC,U Z aD,U Z aJ,U Z aH,U Z aK],.agg #[U Z aI,U Z aG]] w fun e w'=>e = .returned (.agg #[U Z r1,U Z r2])∧Below w.heap.size w w':=by
 have Br:=Try.underlying29
 have MV:=Try.underlying33
 have pz:=Try.underlying27
 have HB:=aa.mk (Below.refl w.heap.size w)
 have H:(if aI = 8 then (some (aJ,aH)) else (some (aC,aD))) = some (r1,r2):=h
 clear h
 by_cases c3:aI = 8
 ·rw [if_pos c3] at H
  have Cc:(aI == 8) = true:=beq_iff_eq.mpr c3
  have MZ:(aI != 8) = false:=bne_eq_false_iff_eq.mpr c3
  clear c3
  simp only [Option.some.injEq,Prod.mk.injEq] at H
  obtain ⟨rfl,rfl⟩:=H
  go_enter Try.func109,Try.ntmps109
  go_wp2_with (first|((with_reducible refine aA (N:=2) rfl ?_);refine au (by rfl) (N:=2) (by rfl) (cs:=#[U Z ai,U Z aj,U Z aC,U Z aD,U Z aJ,U Z aH,U Z aK]) (t:=29) fG ?_;intro aGU hg w4 hbox hb;have yO:=aa.mk (hbox);have aGV:=bS HB hg;have aGW:=bS HB hg;replace HB:=cO HB hb;clear hb hbox hg)|((with_reducible refine aA (N:=3) rfl ?_);refine au (by rfl) (N:=3) (by rfl) (cs:=#[U Z aI,U Z aG]) (t:=33) fG ?_;intro aGX hg w5 hbox hb;have Jw:=aa.mk (hbox);have aGY:=bS HB hg;have aGZ:=bS HB hg;have PY:=eQ yO hg;have PZ:=eT yO hg;replace yO:=aX yO hb;replace HB:=cO HB hb;clear hb hbox hg)|((with_reducible refine aA (N:=4) rfl ?_);refine au (by rfl) (N:=4) (by rfl) (cs:=#[U Z 0,U Z 0]) (t:=27) fG ?_;intro an9 hg w6 hbox hb;have acP:=aa.mk (hbox);have aG0:=bS HB hg;have aG1:=bS HB hg;have P5:=eQ yO hg;have P6:=eT yO hg;have P7:=eQ Jw hg;have P8:=eT Jw hg;replace yO:=aX yO hb;replace Jw:=aX Jw hb;replace HB:=cO HB hb;clear hb hbox hg;have aW0:=PZ.out;have aW1:=PY.out;have abB:=P7.out;have abC:=P8.out;obtain ⟨zu,zw,zx,zy⟩:=iZ Jw.out;have VL:=P5.out;have VM:=P6.out;obtain ⟨uk,um,xJ,xK,Ci,Cj,GZ,uo,uq,xL,xM,Ck,Cm,G5⟩:=jF yO.out;obtain ⟨o6,o7,o8,o9⟩:=iZ acP.out))
  refine bodyPost_ret (results_cell_row rfl _ _ an9 27 #[U Z aJ,U Z aH] (0,0) _ rfl (by (with_reducible repeat (first|refine av ?_ _|refine ag ?_|refine af ?_ _));refine aN (cs:=#[U Z aJ,U Z 0]) ?_ 1 _ rfl;(with_reducible repeat (first|refine av ?_ _|refine ag ?_|refine af ?_ _));refine aN (cs:=#[U Z 0,U Z 0]) ?_ 0 _ rfl;(with_reducible repeat (first|refine av ?_ _|refine ag ?_|refine af ?_ _));exact acP.out) Try.underlying27 rfl aM) rfl ?_
  exact ⟨lW,gL⟩
 ·rw [if_neg c3] at H
  have Cc:(aI == 8) = false:=beq_eq_false_iff_ne.mpr c3
  have MZ:(aI != 8) = true:=bne_iff_ne.mpr c3
  simp only [Option.some.injEq,Prod.mk.injEq] at H
  obtain ⟨rfl,rfl⟩:=H
  go_enter Try.func109,Try.ntmps109
  go_wp2_with (first|((with_reducible refine aA (N:=2) rfl ?_);refine au (by rfl) (N:=2) (by rfl) (cs:=#[U Z ai,U Z aj,U Z aC,U Z aD,U Z aJ,U Z aH,U Z aK]) (t:=29) fG ?_;intro aGU hg FD hbox hb;have yO:=aa.mk (hbox);have aGV:=bS HB hg;have aGW:=bS HB hg;replace HB:=cO HB hb;clear hb hbox hg)|((with_reducible refine aA (N:=3) rfl ?_);refine au (by rfl) (N:=3) (by rfl) (cs:=#[U Z aI,U Z aG]) (t:=33) fG ?_;intro aGX hg w14 hbox hb;have Jw:=aa.mk (hbox);have aGY:=bS HB hg;have aGZ:=bS HB hg;have PY:=eQ yO hg;have PZ:=eT yO hg;replace yO:=aX yO hb;replace HB:=cO HB hb;clear hb hbox hg)|((with_reducible refine aA (N:=4) rfl ?_);refine au (by rfl) (N:=4) (by rfl) (cs:=#[U Z 0,U Z 0]) (t:=27) fG ?_;intro an9 hg w15 hbox hb;have acP:=aa.mk (hbox);have aG0:=bS HB hg;have aG1:=bS HB hg;have P5:=eQ yO hg;have P6:=eT yO hg;have P7:=eQ Jw hg;have P8:=eT Jw hg;replace yO:=aX yO hb;replace Jw:=aX Jw hb;replace HB:=cO HB hb;clear hb hbox hg;have Na:=PZ.out;have Nb:=PY.out;have Uj:=P7.out;have Uk:=P8.out;obtain ⟨Ee,Ef,Eg,Eh⟩:=iZ Jw.out;have QL:=P5.out;have QM:=P6.out;obtain ⟨wu,wy,AP,AQ,Cn,Co,G6,wz,wB,AR,AU,Cq,Cr,G7⟩:=jF yO.out;obtain ⟨xO,xP,xQ,xR⟩:=iZ acP.out))
  refine bodyPost_ret (results_cell_row rfl _ _ an9 27 #[U Z aC,U Z aD] (0,0) _ rfl (by (with_reducible repeat (first|refine av ?_ _|refine ag ?_|refine af ?_ _));refine aN (cs:=#[U Z aC,U Z 0]) ?_ 1 _ rfl;(with_reducible repeat (first|refine av ?_ _|refine ag ?_|refine af ?_ _));refine aN (cs:=#[U Z 0,U Z 0]) ?_ 0 _ rfl;(with_reducible repeat (first|refine av ?_ _|refine ag ?_|refine af ?_ _));exact acP.out) Try.underlying27 rfl aM) rfl ?_
  exact ⟨lW,gL⟩
end Go.Proofs.Ytmhaiihjfgfaoaa.Pr
end
section
namespace Go.Proofs.Ytmhaiihjfgfaoaa.Gl
open Go.RowKit Go.Shelf Go.Proofs.YtmhaiihjfgfaoaaW.PrintWords Go.Proofs.YtmhaiihjfgfaoaaW.PrintLast Go.Proofs.YtmhaiihjfgfaoaaW.PrintMore Go.Proofs.Ytmhaiihjfgfaoaa.Pr Go.Proofs.YtmhaiihjfgfaoaaW.Round
set_option linter.unusedVariables false
set_option linter.unusedSimpArgs false
attribute [local go_sem] gp gq iA iB gu
def ni (v:tF) (c:xN):ky:=if c.f0 = 8 then v.drift else v.use
theorem akY (v:tF) (c:xN) (w:World):Calls Try.prog 109 #[.agg #[U Z v.speed,U Z v.dive,U Z v.use.f0,U Z v.use.f1,U Z v.drift.f0,U Z v.drift.f1,U Z v.reserve],.agg #[U Z c.f0,U Z c.f1]] w (zn (.agg #[U Z (ni v c).f0,U Z (ni v c).f1]) w) :=
 CX.calls _ _ _ _ _ _ _ _ _ (ni v c).f0 (ni v c).f1 w (by unfold CX.f ni;split <;> rfl)
def enI (v:tF):List xN→ky→Int→List ky→List ky × Int × Int
 |[],_,n,out=>(out,n,0)
 |c :: l,e,n,out=>if e.f0 - (ni v c).f1 < v.reserve then ([],n,19) else enI v l ⟨e.f0 - (ni v c).f1,e.f1 - (ni v c).f0⟩ (n+1) (out++[⟨e.f0 - (ni v c).f1,e.f1 - (ni v c).f0⟩])
def az9 (R:List ky × Int × Int) (w:World) (e:Ending) (w':World):Prop:=∃ v0_:Value,e = .returned (.tuple #[v0_,U Z R.2.1,U Z R.2.2])∧Kd.R k27 27 w' w.heap.size (fun _=>True) v0_ R.1∧Below w.heap.size w w'
theorem UH {v:tF} (h:Dt v = true) (c:xN):0≤(ni v c).f0∧(ni v c).f0≤(ni v c).f1∧(ni v c).f1≤1073741824:=by
 unfold Dt at h
 simp only [Bool.and_eq_true,Jm] at h
 unfold ni
 split
 ·omega
 ·omega
theorem UI {v:tF} (h:Dt v = true):0≤v.reserve∧v.reserve≤1073741824:=by
 unfold Dt at h
 simp only [Bool.and_eq_true,jC] at h
 exact h.2
set_option maxRecDepth 100000 in
set_option maxHeartbeats 8000000 in
theorem aeC (v:tF) (e:ky) (A:Option Addr) (c:Nat) (l:List xN) (w:World) (hv:Dt v = true) (he:xq e.f0 e.f1 0 1073741824 = true) (hC:Kd.C k33 w A l.length l) (hc:l.length≤c) (hl:l.length≤64):
 Calls Try.prog 85 #[.agg #[U Z v.speed,U Z v.dive,U Z v.use.f0,U Z v.use.f1,U Z v.drift.f0,U Z v.drift.f1,U Z v.reserve],.agg #[U Z e.f0,U Z e.f1],.slice A l.length c] w (az9 (enI v l e 0 []) w):=by
 have MV:=Try.underlying33
 have pz:=Try.underlying27
 have Br:=Try.underlying29
 have he':=Jm.1 he
 have hres:=UI hv
 have HV:=Lib.hid hv
 clear hv he
 go_enter Try.func85,Try.ntmps85
 go_wp2_with fail
 have m3:jh ((w.alloc (.cells #[U Z v.speed,U Z v.dive,U Z v.use.f0,U Z v.use.f1,U Z v.drift.f0,U Z v.drift.f1,U Z v.reserve] 29)).alloc (.cells #[U Z e.f0,U Z e.f1] 27)) (w.heap.size) #[U Z v.speed,U Z v.dive,U Z v.use.f0,U Z v.use.f1,U Z v.drift.f0,U Z v.drift.f1,U Z v.reserve] 29:=(af (by have h_:=gT w (.cells #[U Z v.speed,U Z v.dive,U Z v.use.f0,U Z v.use.f1,U Z v.drift.f0,U Z v.drift.f1,U Z v.reserve] 29);first|exact h_|(simp only [World.size_alloc] at h_;exact h_)) _)
 have m4:jh ((w.alloc (.cells #[U Z v.speed,U Z v.dive,U Z v.use.f0,U Z v.use.f1,U Z v.drift.f0,U Z v.drift.f1,U Z v.reserve] 29)).alloc (.cells #[U Z e.f0,U Z e.f1] 27)) (w.heap.size+1) #[U Z e.f0,U Z e.f1] 27:=(by have h_:=gT (w.alloc (.cells #[U Z v.speed,U Z v.dive,U Z v.use.f0,U Z v.use.f1,U Z v.drift.f0,U Z v.drift.f1,U Z v.reserve] 29)) (.cells #[U Z e.f0,U Z e.f1] 27);first|exact h_|(simp only [World.size_alloc] at h_;exact h_))
 have mB:Below w.heap.size w ((w.alloc (.cells #[U Z v.speed,U Z v.dive,U Z v.use.f0,U Z v.use.f1,U Z v.drift.f0,U Z v.drift.f1,U Z v.reserve] 29)).alloc (.cells #[U Z e.f0,U Z e.f1] 27)):=(bA (bA (Below.refl w.heap.size w) _) _)
 have oI:w.heap.size≤w.heap.size:=Nat.le_refl _
 generalize yX:((w.alloc (.cells #[U Z v.speed,U Z v.dive,U Z v.use.f0,U Z v.use.f1,U Z v.drift.f0,U Z v.drift.f1,U Z v.reserve] 29)).alloc (.cells #[U Z e.f0,U Z e.f1] 27)) = W1 at m3 m4 mB ⊢
 clear yX
 generalize hg3:w.heap.size = g3 at m3 m4 ⊢
 have hG3:w.heap.size≤g3:=by omega
 generalize hg4:g3+1 = g4 at m4 ⊢
 have TP:g3≠g4:=by omega
 have ayf:g4≠g3:=TP.symm
 have hG4:w.heap.size≤g4:=by omega
 clear oI
 try clear hg4
 try clear hg3
 have DR:w.heap.size≤W1.heap.size:=mB.size
 go_wp2
 go_loopw [9,15] (fun o i wr=>∃ (k:Nat) (v_:Value) (E:ky) (out:List ky),v_ = o∧i = U Z k∧k≤l.length∧Hid (enI v l e 0 [] = enI v (l.drop k) E k out)∧Hid (out.length = k∧0≤E.f0∧E.f0≤E.f1∧E.f1≤1073741824)∧jh wr g3 #[U Z v.speed,U Z v.dive,U Z v.use.f0,U Z v.use.f1,U Z v.drift.f0,U Z v.drift.f1,U Z v.reserve] 29∧jh wr g4 #[U Z E.f0,U Z E.f1] 27∧Kd.R k27 27 wr w.heap.size (fun q=>q≠g4) v_ out∧Below w.heap.size w wr) (fun _ i _=>l.length - (intOf i).toNat)
 case atStart=>exact ⟨0,_,e,[],rfl,rfl,Nat.zero_le _,Lib.hid rfl,Lib.hid ⟨rfl,by omega,by omega,by omega⟩,m3,m4,Kd.aaG _ _ _ _ _,mB⟩
 case round =>
  clear m3 m4 mB he'
  obtain ⟨k,v_,E,out,rfl,rfl,hk,HR,HQ,m3,m4,HO,mB⟩:=hrel
  have an8:w.heap.size≤wr.heap.size:=mB.size
  by_cases hlt:k < l.length
  case neg =>
   obtain rfl:k = l.length:=by omega
   have HE:=HR.out
   rw [List.drop_length] at HE
   have HE2:Hid (enI v l e 0 [] = (out,(l.length:Int),0)):=Lib.hid HE
   clear HE HR HQ
   go_wp2
   go_ret3
   exact ⟨_,by rw [HE2.out];rfl,by rw [HE2.out];exact Kd.mM HO (fun _ _=>trivial),mB⟩
  case pos =>
   obtain ⟨ad_,e_,hx0,hx1⟩:=kE hC k (by omega) (by omega)
   cases e_
   simp only [Int.toNat_natCast] at hx0 hx1
   replace hx0:=(mB.cell (World.block_lt_of_cell? w _ hx0)).trans hx0
   replace hx1:=(mB.cell (World.block_lt_of_cell? w _ hx1)).trans hx1
   have hdr:l.drop k = bJ l (k:Int) :: l.drop (k+1):=by rw [List.drop_eq_getElem_cons hlt];simp [bJ,List.getD_eq_getElem?_getD,hlt]
   generalize bJ l (k:Int) = d at*
   have hus:=UH HV.out d
   have HR2:Hid (enI v l e 0 [] = if E.f0 - (ni v d).f1 < v.reserve then ([],(k:Int),19) else enI v (l.drop (k+1)) ⟨E.f0 - (ni v d).f1,E.f1 - (ni v d).f0⟩ ((k:Int)+1) (out++[⟨E.f0 - (ni v d).f1,E.f1 - (ni v d).f0⟩])):=Lib.hid (by rw [HR.out,hdr];rfl)
   clear HR hdr
   have kT:=fun W=>akY v d W
   generalize ni v d = x at*
   obtain ⟨hol,hE0,hE1,hE2⟩:=HQ.out
   clear HQ
   have hw0:wrap64 (E.f0 - x.f1) = E.f0 - x.f1:=by unfold wrap64;omega
   have hw1:wrap64 (E.f1 - x.f0) = E.f1 - x.f0:=by unfold wrap64;omega
   have HQ1:Hid (out.length = k∧0≤E.f0∧E.f0≤E.f1∧E.f1≤1073741824∧0≤x.f0∧x.f0≤x.f1∧x.f1≤1073741824∧wrap64 (E.f0 - x.f1) = E.f0 - x.f1∧wrap64 (E.f1 - x.f0) = E.f1 - x.f0):=Lib.hid ⟨hol,hE0,hE1,hE2,hus.1,hus.2.1,hus.2.2,hw0,hw1⟩
   clear hol hE0 hE1 hE2 hus hw0 hw1
   have amn:∀ o_,(wr.alloc o_).cell? ⟨g3,0,none⟩ = some (U Z v.speed):=fun o_=>(ah (af m3 o_) 0).trans rfl
   have amo:∀ o_,(wr.alloc o_).cell? ⟨g3,1,none⟩ = some (U Z v.dive):=fun o_=>(ah (af m3 o_) 1).trans rfl
   have amq:∀ o_,(wr.alloc o_).cell? ⟨g3,2,none⟩ = some (U Z v.use.f0):=fun o_=>(ah (af m3 o_) 2).trans rfl
   have amr:∀ o_,(wr.alloc o_).cell? ⟨g3,3,none⟩ = some (U Z v.use.f1):=fun o_=>(ah (af m3 o_) 3).trans rfl
   have ams:∀ o_,(wr.alloc o_).cell? ⟨g3,4,none⟩ = some (U Z v.drift.f0):=fun o_=>(ah (af m3 o_) 4).trans rfl
   have amt:∀ o_,(wr.alloc o_).cell? ⟨g3,5,none⟩ = some (U Z v.drift.f1):=fun o_=>(ah (af m3 o_) 5).trans rfl
   have amu:∀ o_,(wr.alloc o_).cell? ⟨g3,6,none⟩ = some (U Z v.reserve):=fun o_=>(ah (af m3 o_) 6).trans rfl
   go_wp2_with fail
   clear amn amo amq amr ams amt amu
   clear hx0 hx1
   replace HO:=Kd.mH HO (bA (Below.refl wr.heap.size wr) (.cells #[U Z d.f0,U Z d.f1] 33))
   have aAa:=eG m3
   have al5:=eG m4
   have m11:jh (wr.alloc (.cells #[U Z d.f0,U Z d.f1] 33)) (wr.heap.size) #[U Z d.f0,U Z d.f1] 33:=aGK
   replace m3:jh (wr.alloc (.cells #[U Z d.f0,U Z d.f1] 33)) g3 #[U Z v.speed,U Z v.dive,U Z v.use.f0,U Z v.use.f1,U Z v.drift.f0,U Z v.drift.f1,U Z v.reserve] 29:=(af m3 _)
   replace m4:jh (wr.alloc (.cells #[U Z d.f0,U Z d.f1] 33)) g4 #[U Z E.f0,U Z E.f1] 27:=(af m4 _)
   replace mB:Below w.heap.size w (wr.alloc (.cells #[U Z d.f0,U Z d.f1] 33)):=(bA mB _)
   have oI:w.heap.size≤wr.heap.size:=an8
   generalize yX:(wr.alloc (.cells #[U Z d.f0,U Z d.f1] 33)) = W2 at m3 m4 m11 mB HO ⊢
   clear yX
   generalize aAb:wr.heap.size = g11 at m11 ⊢
   have au5:g3≠g11:=by omega
   have au6:g4≠g11:=by omega
   have aUk:g11≠g3:=au5.symm
   have aUl:g11≠g4:=au6.symm
   have aa2:w.heap.size≤g11:=by omega
   clear oI aAa al5
   try clear aAb
   have Dl:w.heap.size≤W2.heap.size:=mB.size
   have hcon:=kT W2
   clear kT
   (with_reducible refine hcon.mono ?_)
   clear hcon
   rintro _ W3 ⟨rfl,hb⟩
   replace HO:=Kd.mH HO hb
   replace m3:=aU m3 hb
   replace m4:=aU m4 hb
   replace m11:=aU m11 hb
   replace mB:=dY mB hb
   clear hb
   have LA:w.heap.size≤W3.heap.size:=mB.size
   go_wp2
   have hlt3:some W3.heap.size≠v_.ownBlock:=fun h=>by have:=Kd.alx HO _ h.symm;omega
   replace HO:=Kd.mH HO (bA (Below.refl W3.heap.size W3) (.cells #[U Z x.f0,U Z x.f1] 27))
   have aAa:=eG m3
   have al5:=eG m4
   have aG2:=eG m11
   have m12:jh (W3.alloc (.cells #[U Z x.f0,U Z x.f1] 27)) (W3.heap.size) #[U Z x.f0,U Z x.f1] 27:=(by have h_:=gT W3 (.cells #[U Z x.f0,U Z x.f1] 27);first|exact h_|(simp only [World.size_alloc] at h_;exact h_))
   replace m3:jh (W3.alloc (.cells #[U Z x.f0,U Z x.f1] 27)) g3 #[U Z v.speed,U Z v.dive,U Z v.use.f0,U Z v.use.f1,U Z v.drift.f0,U Z v.drift.f1,U Z v.reserve] 29:=(af m3 _)
   replace m4:jh (W3.alloc (.cells #[U Z x.f0,U Z x.f1] 27)) g4 #[U Z E.f0,U Z E.f1] 27:=(af m4 _)
   replace m11:jh (W3.alloc (.cells #[U Z x.f0,U Z x.f1] 27)) g11 #[U Z d.f0,U Z d.f1] 33:=(af m11 _)
   replace mB:Below w.heap.size w (W3.alloc (.cells #[U Z x.f0,U Z x.f1] 27)):=(bA mB _)
   have oI:w.heap.size≤W3.heap.size:=LA
   generalize yX:(W3.alloc (.cells #[U Z x.f0,U Z x.f1] 27)) = W4 at m3 m4 m11 m12 mB HO ⊢
   clear yX
   generalize ayn:W3.heap.size = g12 at m12 hlt3 ⊢
   have au7:g3≠g12:=by omega
   have au8:g4≠g12:=by omega
   have vK:g11≠g12:=by omega
   have aUm:g12≠g3:=au7.symm
   have aih:g12≠g4:=au8.symm
   have aG3:g12≠g11:=vK.symm
   have MN:w.heap.size≤g12:=by omega
   clear oI aAa al5 aG2
   try clear ayn
   have aaI:w.heap.size≤W4.heap.size:=mB.size
   replace m3:=ag m3
   replace m4:=ag m4
   replace m11:=ag m11
   replace m12:=ag m12
   replace mB:=bO mB
   replace HO:=Kd.mH HO (bO (Below.refl W4.heap.size W4))
   refine iN (n:=14) (S:=fun w'=>w'.cell? ⟨g12,0,none⟩ = some (U Z x.f0)∧w'.cell? ⟨g12,1,none⟩ = some (U Z x.f1)∧w'.cell? ⟨g4,1,none⟩ = some (U Z E.f1)) (ds:=[13]) #[ac,ac,ac,ac,ac,ac,ac,ac,ac,ac,ac,ac,ac,ac] aM rfl rfl ⟨((ah m12 0).trans rfl),((ah m12 1).trans rfl),((ah m4 1).trans rfl)⟩ (fun hHeld=>?_)
   generalize hWd:World.drew _ = Wx at*
   clear hWd
   refine bV (i:=0) (N:=some 23) aM ?_
   refine bV (i:=2) (N:=some 25) aM ?_
   refine bV (i:=5) (N:=some 28) aM ?_
   refine bV (i:=7) (N:=some 30) aM ?_
   refine iL (i:=3) (N:=some 26) aM hHeld ?_
   refine iL (i:=6) (N:=some 29) aM hHeld ?_
   refine iL (i:=8) (N:=some 31) aM hHeld ?_
   refine bV (i:=9) (N:=some 32) aM ?_
   refine iO (i:=1) (N:=some 24) #[ab,ab,ab,ab,ac,ab,ab,ab,ab,ab,ac,ac,ac,ac] rfl rfl aM (by decide) (fun K hK=>?_)
   have Q0:=(ah m4 0).trans rfl
   refine L8 (w1:=?_) (v:=?_) (by rfl) rfl ?_ ?_
   rotate_left 2
   ·go_simp
    constructor
    ·rfl
    ·rfl
   clear Q0
   refine hK.out _ _ ⟨((ah m12 0).trans rfl),((ah m12 1).trans rfl),((ah m4 1).trans rfl)⟩ (fun hHeld=>?_)
   clear hK K
   refine dM ame ?_
   refine bV (i:=4) (N:=some 27) aM ?_
   refine bV (i:=10) (N:=some 33) aM ?_
   refine iO (i:=11) (N:=none) #[ab,ab,ab,ab,ab,ab,ab,ab,ab,ab,ab,ab,ac,ac] rfl rfl aM (by decide) (fun K hK=>?_)
   have U5:=bf m4 0
   have Q0:=(ah m4 0).trans rfl
   refine ve (w1:=?_) (by rfl) rfl ?_ ?_
   rotate_left
   ·go_simp
    rfl
   clear U5 Q0
   refine hK.out _ _ ⟨((ah (aV (p:=⟨g4,0,none⟩) m12 aih _) 0).trans rfl),((ah (aV (p:=⟨g4,0,none⟩) m12 aih _) 1).trans rfl),((ah (aN m4 0 (U Z (wrap64 (E.f0 - x.f1))) rfl) 1).trans rfl)⟩ (fun hHeld=>?_)
   clear hK K
   refine bV (i:=12) (N:=some 34) aM ?_
   refine TI (i:=13) (N:=none) #[ab,ab,ab,ab,ab,ab,ab,ab,ab,ab,ab,ab,ab,ab] rfl rfl aM (by decide) (fun K hK=>?_)
   have QZ:=(aN m4 0 (U Z (wrap64 (E.f0 - x.f1))) rfl)
   have U6:=bf QZ 1
   have U7:=(ah QZ 1).trans rfl
   refine ve (w1:=?_) (by rfl) rfl ?_ ?_
   rotate_left
   ·go_simp
    rfl
   clear U6 U7 QZ
   refine hK.out _ _ ?_
   clear hK K
   refine jS aM ?_
   have n4:jh ((Wx.setCell ⟨g4,0,none⟩ (U Z (wrap64 (E.f0 - x.f1)))).setCell ⟨g4,1,none⟩ (U Z (wrap64 (E.f1 - x.f0)))) g4 #[U Z (wrap64 (E.f0 - x.f1)),U Z (wrap64 (E.f1 - x.f0))] 27:=(aN (aN m4 0 _ rfl) 1 _ rfl)
   have n3:jh ((Wx.setCell ⟨g4,0,none⟩ (U Z (wrap64 (E.f0 - x.f1)))).setCell ⟨g4,1,none⟩ (U Z (wrap64 (E.f1 - x.f0)))) g3 #[U Z v.speed,U Z v.dive,U Z v.use.f0,U Z v.use.f1,U Z v.drift.f0,U Z v.drift.f1,U Z v.reserve] 29:=(aV (p:=⟨g4,1,none⟩) (aV (p:=⟨g4,0,none⟩) m3 TP _) TP _)
   have nB:Below w.heap.size w ((Wx.setCell ⟨g4,0,none⟩ (U Z (wrap64 (E.f0 - x.f1)))).setCell ⟨g4,1,none⟩ (U Z (wrap64 (E.f1 - x.f0)))):=(Below.setCell (p:=⟨g4,1,none⟩) (Below.setCell (p:=⟨g4,0,none⟩) mB hG4 _) hG4 _)
   have nO:Kd.R k27 27 ((Wx.setCell ⟨g4,0,none⟩ (U Z (wrap64 (E.f0 - x.f1)))).setCell ⟨g4,1,none⟩ (U Z (wrap64 (E.f1 - x.f0)))) w.heap.size (fun q=>q≠g4) v_ out:=(Kd.fA (p:=⟨g4,1,none⟩) (Kd.fA (p:=⟨g4,0,none⟩) HO (fun _ hk=>hk) _) (fun _ hk=>hk) _)
   clear m3 m4 m11 m12 mB HO
   try clear hHeld
   generalize yX:((Wx.setCell ⟨g4,0,none⟩ (U Z (wrap64 (E.f0 - x.f1)))).setCell ⟨g4,1,none⟩ (U Z (wrap64 (E.f1 - x.f0)))) = W5 at n3 n4 nB nO ⊢
   clear yX
   obtain ⟨hol,hE0,hE1,hE2,hx0,hx1,hx2,hw0,hw1⟩:=HQ1.out
   rw [hw0,hw1] at n4
   try rw [hw0,hw1]
   clear HQ1
   have afi:w.heap.size≤W5.heap.size:=nB.size
   have m3:=n3
   have m4:=n4
   have mB:=nB
   have HO:=nO
   clear n3 n4 nB nO
   obtain ⟨amn,amo,amq,amr,ams,amt,amu⟩:=Mk m3
   obtain ⟨aqe,aqf⟩:=GJ m4
   by_cases hE:E.f0 - x.f1 < v.reserve
   case pos =>
    have HZ:=Lib.hid (HR2.out.trans (if_pos hE))
    have hd1:decide (E.f0 - x.f1 < v.reserve) = true:=decide_eq_true hE
    clear hE HR2
    go_wp2
    go_ret3
    exact ⟨_,yY,by rw [HZ.out];exact Kd.aaG _ _ _ _ _,mB⟩
   case neg =>
    have HR3:=Lib.hid (HR2.out.trans (if_neg hE))
    have hd1:decide (E.f0 - x.f1 < v.reserve) = false:=decide_eq_false hE
    have HQ2:Hid (out.length = k∧0≤E.f0 - x.f1∧E.f0 - x.f1≤E.f1 - x.f0∧E.f1 - x.f0≤1073741824):=Lib.hid ⟨hol,by omega,by omega,by omega⟩
    clear HR2 hol hE0 hE1 hE2 hx0 hx1 hx2 hw0 hw1 hE
    have hal:Hid ((out.length+1)*16≤140737488355328):=Lib.hid (by have:=HQ2.out.1;omega)
    have aYa:some g4≠v_.ownBlock:=fun h=>HO.1 g4 h.symm rfl
    have aYb:=Kd.adz HO m3 (by decide)
    go_wp2_with (first|((with_reducible refine yG (b:=.append) (xs:=#[.tmp 41,.tmp 43]) rfl ?_);(try (refine oW (by rfl) ?_;dsimp only));at_builtin;go_loud (refine Kd.Je k27 (w0:=w) w.heap.size rfl (.tmp 41) (.tmp 43) 66 27 (.agg #[U Z 0,U Z 0]) 16 rfl Try.underlying66 anA rfl (by decide) (by decide) v_ out ⟨E.f0 - x.f1,E.f1 - x.f0⟩ [U Z (E.f0 - x.f1),U Z (E.f1 - x.f0)] (fun q=>q≠g4) (fun _=>False) rfl (by first|rfl|(go_simp;done)|(go_simp;rfl)) ?aP (fun _ hk=>hk.elim) ?aF ?aO ?aB ?aS ?aL ?_);(case aP=>exact yL _ _ _ (⟨E.f0 - x.f1,E.f1 - x.f0⟩:ky));(case aF=>exact (fun q hq=>by have h_:=eG m4;omega));(case aO=>exact HO);(case aB=>exact mB);(case aS=>exact mB.size);(case aL=>exact hal.out);intro v1 w1 HO1 hB1 hgr hat))
    go_roundw
    case rel =>
     exact ⟨k+1,v1,(⟨E.f0 - x.f1,E.f1 - x.f0⟩:ky),out++[(⟨E.f0 - x.f1,E.f1 - x.f0⟩:ky)],rfl,by simp,by omega,Lib.hid HR3.out,Lib.hid ⟨by rw [List.length_append];have:=HQ2.out.1;simp;omega,HQ2.out.2⟩,oz m3 hgr aYb,oz m4 hgr aYa,HO1,hB1⟩
    case measure=>simp [intOf];omega
end Go.Proofs.Ytmhaiihjfgfaoaa.Gl
end
section
namespace Go.Proofs.Ytmhaiihjfgfaoaa.Pr
open Go.RowKit Go.Proofs.YtmhaiihjfgfaoaaW.PrintWords Go.Proofs.YtmhaiihjfgfaoaaW.PrintLast Go.Proofs.YtmhaiihjfgfaoaaW.PrintMore
attribute [local go_sem] gp gq iA iB gu
set_option linter.unusedVariables false
set_option linter.unusedSimpArgs false
def kr.f (ai:Int) (aj:Int) (aI:Int) (aG:Int):Option (Int × Int × Bool):=some (mx ai aI,mn aj aG,decide ((mx ai aI)≤(mn aj aG)))
def kr.T2:Bool × List (List Nat × List Nat):=(true,[([],[]),([],[]),([1],[1]),([],[]),([3],[3]),([2,4],[2,4]),([0,0],[0]),([5,6,0,1,2,3,4,5,6],[5])])
def kr.B2:List Nat:=[0,0,2,0,8,30,1,127]
theorem kr.amz:qA .any (opsOf Try.f138 2) = kr.T2:=by kernel_rfl
theorem kr.abg:mI kr.T2.2 kr.B2 = true:=by kernel_rfl
set_option maxHeartbeats 8000000 in
set_option maxRecDepth 100000 in
theorem kr.calls (ai:Int) (aj:Int) (aI:Int) (aG:Int) (r1:Int) (r2:Int) (r3:Bool) (w:World) (h:kr.f ai aj aI aG = some (r1,r2,r3)):
 Calls Try.prog 138 #[.agg #[U Z ai,U Z aj],.agg #[U Z aI,U Z aG]] w fun e w'=>e = .returned (.tuple #[.agg #[U Z r1,U Z r2],.bool r3])∧Below w.heap.size w w':=by
 have pz:=Try.underlying27
 have HB:=aa.mk (Below.refl w.heap.size w)
 have H:(some (mx ai aI,mn aj aG,decide ((mx ai aI)≤(mn aj aG)))) = some (r1,r2,r3):=h
 clear h
 obtain ⟨Dn,Jb⟩:∃ j_:Int,(mx ai aI) = j_:=⟨_,rfl⟩
 replace H:(some (Dn,mn aj aG,decide ((Dn)≤(mn aj aG)))) = some (r1,r2,r3):=by first|(rw [Jb] at H;exact H)|(simp only [Jb] at H ⊢;exact H)
 have alN:(if ai < aI then aI else ai) = Dn:=Jb
 obtain ⟨Rk,Pb⟩:∃ j_:Int,(mn aj aG) = j_:=⟨_,rfl⟩
 replace H:(some (Dn,Rk,decide ((Dn)≤(Rk)))) = some (r1,r2,r3):=by first|(rw [Pb] at H;exact H)|(simp only [Pb] at H ⊢;exact H)
 have awf:(if aG < aj then aG else aj) = Rk:=Pb
 simp only [Option.some.injEq,Prod.mk.injEq] at H
 obtain ⟨rfl,rfl,rfl⟩:=H
 go_enter Try.func138,Try.ntmps138
 try go_wp2_with (first|((with_reducible refine aA (N:=2) rfl ?_);refine au (by rfl) (N:=2) (by rfl) (cs:=#[U Z ai,U Z aj]) (t:=27) fG ?_;intro aG4 hg w5 hbox hb;have zh:=aa.mk (hbox);have a4n:=bS HB hg;have a4o:=bS HB hg;replace HB:=cO HB hb;clear hb hbox hg)|((with_reducible refine aA (N:=3) rfl ?_);refine au (by rfl) (N:=3) (by rfl) (cs:=#[U Z aI,U Z aG]) (t:=27) fG ?_;intro aG5 hg w6 hbox hb;have ET:=aa.mk (hbox);have a4p:=bS HB hg;have a4q:=bS HB hg;have akZ:=eQ zh hg;have ak0:=eT zh hg;replace zh:=aX zh hb;replace HB:=cO HB hb;clear hb hbox hg)|((with_reducible refine aA (N:=4) rfl ?_);refine au (by rfl) (N:=4) (by rfl) (cs:=#[U Z 0,U Z 0]) (t:=27) fG ?_;intro aii hg w7 hbox hb;have EU:=aa.mk (hbox);have a4r:=bS HB hg;have a4s:=bS HB hg;have P9:=eQ zh hg;have Qa:=eT zh hg;have Qb:=eQ ET hg;have Qc:=eT ET hg;replace zh:=aX zh hb;replace ET:=aX ET hb;replace HB:=cO HB hb;clear hb hbox hg;have abB:=akZ.out;have abC:=ak0.out;have aqJ:=P9.out;have aqK:=Qa.out;obtain ⟨sV,sW,sZ,tq⟩:=iZ zh.out;have VN:=Qb.out;have VO:=Qc.out;obtain ⟨o6,o7,o8,o9⟩:=iZ ET.out)|((with_reducible refine aA (N:=6) rfl ?_);refine au (by rfl) (N:=6) (by rfl) (cs:=#[U Z 0,U Z 0]) (t:=27) fG ?_;intro DC hg FD hbox hb;have OE:=aa.mk (hbox);have a4t:=bS HB hg;have a4u:=bS HB hg;have ak1:=eQ zh hg;have ak2:=eT zh hg;have ak3:=eQ ET hg;have ak4:=eT ET hg;have Qd:=eQ EU hg;have Ai:=eT EU hg;replace zh:=aX zh hb;replace ET:=aX ET hb;replace EU:=aX EU hb;replace HB:=cO HB hb;clear hb hbox hg;have afS:=ak2.out;have afT:=ak1.out;have aG6:=ak4.out;have aG7:=ak3.out;have Na:=Ai.out;have Nb:=Qd.out;obtain ⟨uy,uz,uA,uB⟩:=iZ OE.out))
 have vD:aa (((FD.setCell ⟨DC,0,none⟩ (U Z Dn)).setCell ⟨DC,1,none⟩ (U Z Rk)).heap[aG4]? = some (.cells #[U Z ai,U Z aj] 27 (0,0))):=⟨gB⟩
 have vE:aa (((FD.setCell ⟨DC,0,none⟩ (U Z Dn)).setCell ⟨DC,1,none⟩ (U Z Rk)).heap[aG5]? = some (.cells #[U Z aI,U Z aG] 27 (0,0))):=⟨gB⟩
 have vF:aa (((FD.setCell ⟨DC,0,none⟩ (U Z Dn)).setCell ⟨DC,1,none⟩ (U Z Rk)).heap[aii]? = some (.cells #[U Z 0,U Z 0] 27 (0,0))):=⟨gB⟩
 have vG:aa (((FD.setCell ⟨DC,0,none⟩ (U Z Dn)).setCell ⟨DC,1,none⟩ (U Z Rk)).heap[DC]? = some (.cells #[U Z Dn,U Z Rk] 27 (0,0))):=⟨by (with_reducible repeat (first|refine av ?_ _|refine ag ?_|refine af ?_ _));refine aN (cs:=#[U Z Dn,U Z 0]) ?_ 1 _ rfl;(with_reducible repeat (first|refine av ?_ _|refine ag ?_|refine af ?_ _));refine aN (cs:=#[U Z 0,U Z 0]) ?_ 0 _ rfl;(with_reducible repeat (first|refine av ?_ _|refine ag ?_|refine af ?_ _));exact OE.out⟩
 have vY:aa (Below w.heap.size w ((FD.setCell ⟨DC,0,none⟩ (U Z Dn)).setCell ⟨DC,1,none⟩ (U Z Rk))):=⟨gL⟩
 (try clear zh)
 (try clear ET)
 (try clear EU)
 (try clear OE)
 (try clear HB)
 generalize ((FD.setCell ⟨DC,0,none⟩ (U Z Dn)).setCell ⟨DC,1,none⟩ (U Z Rk)) = w18 at vD vE vF vG vY ⊢
 have zh:=vD
 have ET:=vE
 have EU:=vF
 have OE:=vG
 have HB:=vY
 clear vD vE vF vG vY
 replace zh:=aa.mk (ag zh.out)
 replace ET:=aa.mk (ag ET.out)
 replace EU:=aa.mk (ag EU.out)
 replace OE:=aa.mk (ag OE.out)
 replace HB:=aa.mk (bO HB.out)
 refine iN (n:=8) (S:=fun w'=>w'.cell? ⟨DC,0,none⟩ = some (U Z Dn)∧w'.cell? ⟨DC,1,none⟩ = some (U Z Rk)) (ds:=[]) #[ac,ac,ac,ac,ac,ac,ac,ac] aM rfl rfl ⟨bE OE 0,bE OE 1⟩ (fun hHeld=>?_);refine fU kr.amz kr.abg (fun bz jb=>?_)
 generalize w18.drew = w19 at zh ET EU OE HB hHeld ⊢
 refine bV (i:=1) (N:=some 19) (ax bz.out aM) ?_
 refine bV (i:=3) (N:=some 21) (ax bz.out aM) ?_
 refine iL (i:=0) (N:=some 18) (aY bz.out jb.out aM) hHeld ?_
 refine iL (i:=2) (N:=some 20) (aY bz.out jb.out aM) hHeld ?_
 refine iL (i:=4) (N:=some 22) (aY bz.out jb.out aM) hHeld ?_
 refine bV (i:=5) (N:=some 23) (ax bz.out aM) ?_
 refine iO (i:=6) (N:=none) #[ab,ab,ab,ab,ab,ab,ab,ac] rfl rfl (eH bz.out aM) (by decide) (fun K hK=>?_)
 have aXb:w19.cell? ⟨aii,0,none⟩ = some (U Z 0):=(ah EU.out 0).trans rfl
 have aDJ:=bf EU.out 0
 have atv:=P9.out
 have atw:=Qb.out
 have aUn:=Ai.out
 have atx:=Qa.out
 have aty:=Qc.out
 have aUo:=Qd.out
 have aBO:w19.cell? ⟨aii,1,none⟩ = some (U Z 0):=(ah EU.out 1).trans rfl
 have awt:=bf EU.out 1
 have afB:=P9.out
 have afC:=Qb.out
 have aUp:=Ai.out
 have afD:=Qa.out
 have afE:=Qc.out
 have aUq:=Qd.out
 refine ve (w1:=?_) (by rfl) rfl ?_ ?_
 rotate_left
 ·go_simp
  rfl
 refine hK.out _ _ ⟨(bY Ai ((bY Ai (hHeld.1)))),(bY Ai ((bY Ai (hHeld.2))))⟩ (fun hHeld=>?_)
 clear hK K
 refine bV (i:=7) (N:=some 5) (ax bz.out aM) ?_
 refine jS (ja bz.out aM) ?_
 try go_wp2
 refine bodyPost_ret (nW rfl _ _ aii 27 #[U Z Dn,U Z Rk] (0,0) _ rfl (by (with_reducible repeat (first|refine av ?_ _|refine ag ?_|refine af ?_ _));refine aN (cs:=#[U Z Dn,U Z 0]) ?_ 1 _ rfl;(with_reducible repeat (first|refine av ?_ _|refine ag ?_|refine af ?_ _));refine aN (cs:=#[U Z 0,U Z 0]) ?_ 0 _ rfl;(with_reducible repeat (first|refine av ?_ _|refine ag ?_|refine af ?_ _));exact EU.out) Try.underlying27 rfl aM) rfl ?_
 exact ⟨aCA,gL⟩
end Go.Proofs.Ytmhaiihjfgfaoaa.Pr
end
