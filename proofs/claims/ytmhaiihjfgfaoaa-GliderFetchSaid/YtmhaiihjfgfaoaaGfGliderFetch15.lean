import Derived.Test.YtmhaiihjfgfaoaaGfGliderFetch3
import Derived.Test.YtmhaiihjfgfaoaaGfGliderFetch14
import Derived.Test.YtmhaiihjfgfaoaaGfGliderFetch7
set_option linter.unusedVariables false
set_option linter.unusedSimpArgs false
open Go.Value renaming int → U
open Go.IntKind renaming i64 → Z
open Bool renaming true → ab, false → ac
section
namespace Go.Proofs.Ytmhaiihjfgfaoaa.Gl
open Go.RowKit Go.Shelf Go.Proofs.YtmhaiihjfgfaoaaW.PrintWords Go.Proofs.YtmhaiihjfgfaoaaW.PrintLast Go.Proofs.YtmhaiihjfgfaoaaW.PrintMore Go.Proofs.Ytmhaiihjfgfaoaa.Pr Go.Proofs.YtmhaiihjfgfaoaaW.Round
set_option linter.unusedVariables false
set_option linter.unusedSimpArgs false
attribute [local go_sem] gp gq iA iB gu
structure Va (s:oJ):Prop where
 n:BX s
 sh:(s.shores.length:Int) = s.nx*s.ny
 cu:(s.currents.length:Int) = s.slots*s.layers*(s.nx*s.ny)
 cb:ayv s
def xD (x:jf):Prop:=Jh x∧x.f0.f0≤x.f0.f1∧x.f1.f0≤x.f1.f1
theorem MX {s:oJ} {v:tF} {x:jf} {t:Int} (hS:BX s) (hV:Fy v) (hx:xD x) (h:oV s v x t = 0):VK s (fu s v x)∧(0≤t∧t+v.dive≤s.slots*s.slot)∧(0≤x.f0.f0∧x.f0.f1≤1000000)∧(0≤x.f1.f0∧x.f1.f1≤1000000):=by
 have hm:=hS.most
 have hsp:=hV.speed
 have hdv:=hV.dive
 have p1:=iI (show 0≤v.speed+s.most by omega) (show v.speed+s.most≤10000 by omega) (show 0≤v.dive by omega) hdv.2
 have p2:=iI (show 0≤s.nx by have:=hS.nx;omega) hS.nx.2 (show 0≤s.cell by have:=hS.cell;omega) hS.cell.2
 have p3:=iI (show 0≤s.ny by have:=hS.ny;omega) hS.ny.2 (show 0≤s.cell by have:=hS.cell;omega) hS.cell.2
 obtain ⟨⟨x0,x1,x2,x3⟩,x4,x5⟩:=hx
 unfold oV at h
 have hc:jm s (fu s v x) = true∧vz s t (t+v.dive) = true:=by
  by_cases hb:(jm s (fu s v x) && vz s t (t+v.dive)) = true
  ·exact Bool.and_eq_true_iff.1 hb
  ·rw [if_neg hb] at h
   cases h
 obtain ⟨h1,h2⟩:=hc
 unfold jm fu at h1
 unfold vz at h2
 simp only [Bool.and_eq_true,decide_eq_true_eq] at h1 h2
 unfold VK fu
 dsimp only
 omega
def qz (s:oJ) (v:tF) (x:jf) (t:Int):Int:=if oV s v x t≠0 then oV s v x t else DU s (fu s v x)
def oP (s:oJ) (v:tF) (x:jf) (t hd layer:Int):jf:=if qz s v x t = 0 then Dp s v x (fu s v x) t hd layer else z31
theorem aa3 (s:oJ) (x:jf):DU s x = 0∨DU s x = 21:=by
 unfold DU
 split
 ·exact .inr rfl
 ·exact .inl rfl
theorem TW {s:oJ} {v:tF} {x:jf} {t hd layer:Int} (hS:Va s) (hV:Fy v) (hx:xD x) (h:qz s v x t = 0):xD (oP s v x t hd layer):=by
 have hr:oV s v x t = 0:=by
  unfold qz at h
  by_cases hz:oV s v x t = 0
  ·exact hz
  ·rw [if_pos hz] at h
   exact absurd h hz
 obtain ⟨_,_,⟨a0,a1⟩,b0,b1⟩:=MX hS.n hV hx hr
 obtain ⟨_,o1,o2⟩:=hx
 have hdv:=hV.dive
 have hsp:=hV.speed
 have hdi:=Rm hd
 have hai:=al3 hS.cb (fu s v x) layer t (t+v.dive)
 unfold oP
 rw [if_pos h]
 unfold Dp pM xD Jh Jf upM
 dsimp only
 generalize Q5 s (fu s v x) layer t (t+v.dive) = y at*
 generalize Cb hd = d at*
 obtain ⟨⟨y0,y1⟩,⟨y2,y3⟩,⟨y4,y5⟩,⟨y6,y7⟩,y8,y9⟩:=hai
 have m0:=qw (a:=d.1) (b:=v.speed) (m:=1000) (n:=5000) hdi.1.1 hdi.1.2 hsp.1 hsp.2 (by omega)
 have m1:=qw (a:=d.2) (b:=v.speed) (m:=1000) (n:=5000) hdi.2.1 hdi.2.2 hsp.1 hsp.2 (by omega)
 generalize d.1*v.speed = e at*
 generalize d.2*v.speed = f at*
 have n0:=qw (a:=e+1000*y.f0.f0) (b:=v.dive) (m:=10000000) (n:=131072) (by omega) (by omega) (by omega) (by omega) (by omega)
 have n1:=qw (a:=e+1000*y.f0.f1) (b:=v.dive) (m:=10000000) (n:=131072) (by omega) (by omega) (by omega) (by omega) (by omega)
 have n2:=qw (a:=f+1000*y.f1.f0) (b:=v.dive) (m:=10000000) (n:=131072) (by omega) (by omega) (by omega) (by omega) (by omega)
 have n3:=qw (a:=f+1000*y.f1.f1) (b:=v.dive) (m:=10000000) (n:=131072) (by omega) (by omega) (by omega) (by omega) (by omega)
 have k0:=Int.mul_le_mul_of_nonneg_right (show e+1000*y.f0.f0≤e+1000*y.f0.f1 by omega) (show 0≤v.dive by omega)
 have k1:=Int.mul_le_mul_of_nonneg_right (show f+1000*y.f1.f0≤f+1000*y.f1.f1 by omega) (show 0≤v.dive by omega)
 generalize (e+1000*y.f0.f0)*v.dive = A at*
 generalize (e+1000*y.f0.f1)*v.dive = B at*
 generalize (f+1000*y.f1.f0)*v.dive = C at*
 generalize (f+1000*y.f1.f1)*v.dive = E at*
 clear m0 m1 hdi hdv hsp h hr
 omega
set_option maxRecDepth 100000 in
set_option maxHeartbeats 8000000 in
theorem aa4 (b:Nat) (s:oJ) (v:tF) (x:jf) (t hd layer:Int) (w:World) (hT:nX w b s v) (hS:Va s) (hV:Fy v) (hx:xD x) (ht0:0≤t) (ht1:t≤1099511627776) (hh0:0≤hd) (hh1:hd≤8) (hl0:0≤layer) (hl1:layer < s.layers):
 Calls Try.prog 66 #[.pointer (some ⟨b,0,none⟩),.agg #[U Z x.f0.f0,U Z x.f0.f1,U Z x.f1.f0,U Z x.f1.f1],U Z t,.agg #[U Z hd,U Z layer]] w (zn (.tuple #[.agg #[U Z (oP s v x t hd layer).f0.f0,U Z (oP s v x t hd layer).f0.f1,U Z (oP s v x t hd layer).f1.f0,U Z (oP s v x t hd layer).f1.f1],U Z (qz s v x t)]) w):=by
 have rO:=Try.underlying31
 have pz:=Try.underlying27
 have MV:=Try.underlying33
 have kR:=fun W (h:nX W b s v)=>ajX b s v x t W h hS.n hV hx.1 ht0 ht1
 have hok:=MX (t:=t) hS.n hV hx
 have HE:Hid (qz s v x t = if oV s v x t≠0 then oV s v x t else DU s (fu s v x)):=Lib.hid rfl
 have HV:Hid (oP s v x t hd layer = if qz s v x t = 0 then Dp s v x (fu s v x) t hd layer else z31):=Lib.hid rfl
 have HRV:Hid (GV s v x t = if oV s v x t = 0 then fu s v x else z31):=Lib.hid rfl
 go_enter Try.func66,Try.ntmps66
 go_wp2_with fail
 have m5:jh (((w.alloc (.cells #[U Z x.f0.f0,U Z x.f0.f1,U Z x.f1.f0,U Z x.f1.f1] 31)).alloc (.cells #[U Z hd,U Z layer] 33)).alloc (.cells #[U Z 0,U Z 0,U Z 0,U Z 0] 31)) (w.heap.size) #[U Z x.f0.f0,U Z x.f0.f1,U Z x.f1.f0,U Z x.f1.f1] 31:=(af (af al4 _) _)
 have m7:jh (((w.alloc (.cells #[U Z x.f0.f0,U Z x.f0.f1,U Z x.f1.f0,U Z x.f1.f1] 31)).alloc (.cells #[U Z hd,U Z layer] 33)).alloc (.cells #[U Z 0,U Z 0,U Z 0,U Z 0] 31)) (w.heap.size+1) #[U Z hd,U Z layer] 33:=(af (by have h_:=gT (w.alloc (.cells #[U Z x.f0.f0,U Z x.f0.f1,U Z x.f1.f0,U Z x.f1.f1] 31)) (.cells #[U Z hd,U Z layer] 33);first|exact h_|(simp only [World.size_alloc] at h_;exact h_)) _)
 have m8:jh (((w.alloc (.cells #[U Z x.f0.f0,U Z x.f0.f1,U Z x.f1.f0,U Z x.f1.f1] 31)).alloc (.cells #[U Z hd,U Z layer] 33)).alloc (.cells #[U Z 0,U Z 0,U Z 0,U Z 0] 31)) (w.heap.size+1+1) #[U Z 0,U Z 0,U Z 0,U Z 0] 31:=(by have h_:=gT ((w.alloc (.cells #[U Z x.f0.f0,U Z x.f0.f1,U Z x.f1.f0,U Z x.f1.f1] 31)).alloc (.cells #[U Z hd,U Z layer] 33)) (.cells #[U Z 0,U Z 0,U Z 0,U Z 0] 31);first|exact h_|(simp only [World.size_alloc] at h_;exact h_))
 have mB:Below w.heap.size w (((w.alloc (.cells #[U Z x.f0.f0,U Z x.f0.f1,U Z x.f1.f0,U Z x.f1.f1] 31)).alloc (.cells #[U Z hd,U Z layer] 33)).alloc (.cells #[U Z 0,U Z 0,U Z 0,U Z 0] 31)):=(bA (bA (bA (Below.refl w.heap.size w) _) _) _)
 have oI:w.heap.size≤w.heap.size:=Nat.le_refl _
 generalize yX:(((w.alloc (.cells #[U Z x.f0.f0,U Z x.f0.f1,U Z x.f1.f0,U Z x.f1.f1] 31)).alloc (.cells #[U Z hd,U Z layer] 33)).alloc (.cells #[U Z 0,U Z 0,U Z 0,U Z 0] 31)) = W1 at m5 m7 m8 mB ⊢
 clear yX
 generalize hg5:w.heap.size = g5 at m5 m7 m8 ⊢
 have hG5:w.heap.size≤g5:=by omega
 generalize hg7:g5+1 = g7 at m7 m8 ⊢
 have TG:g5≠g7:=by omega
 have alD:g7≠g5:=TG.symm
 have hG7:w.heap.size≤g7:=by omega
 generalize hg8:g7+1 = g8 at m8 ⊢
 have adK:g5≠g8:=by omega
 have TH:g7≠g8:=by omega
 have aya:g8≠g5:=adK.symm
 have alE:g8≠g7:=TH.symm
 have hG8:w.heap.size≤g8:=by omega
 clear oI
 try clear hg8
 try clear hg7
 try clear hg5
 have DR:w.heap.size≤W1.heap.size:=mB.size
 have hcon:=kR W1 (hT.below mB)
 (with_reducible refine hcon.mono ?_)
 clear hcon
 rintro e W2 ⟨rfl,hb⟩
 replace m5:=aU m5 hb
 replace m7:=aU m7 hb
 replace m8:=aU m8 hb
 replace mB:=dY mB hb
 clear hb
 have Dl:w.heap.size≤W2.heap.size:=mB.size
 clear kR
 by_cases hr:oV s v x t = 0
 case neg =>
  have HZ:Hid (qz s v x t = oV s v x t):=Lib.hid (HE.out.trans (if_pos hr))
  try clear HE
  have HV2:Hid (oP s v x t hd layer = z31):=Lib.hid (HV.out.trans (if_neg (by rw [HZ.out];exact hr)))
  clear HV hok
  generalize oV s v x t = E at*
  generalize GV s v x t = V at*
  have hz:(E == 0) = false:=beq_eq_false_iff_ne.2 hr
  have hz2:(E != 0) = true:=by rw [bne,hz];rfl
  clear hr HRV
  have a6s:∀ o_,(W2.alloc o_).cell? ⟨g8,0,none⟩ = some (U Z 0):=fun o_=>(ah (af m8 o_) 0).trans rfl
  have a6t:∀ o_,(W2.alloc o_).frozen? ⟨g8,0,none⟩ = false:=fun o_=>bf (af m8 o_) 0
  have a6u:∀ o_,(W2.alloc o_).cell? ⟨g8,1,none⟩ = some (U Z 0):=fun o_=>(ah (af m8 o_) 1).trans rfl
  have a6v:∀ o_,(W2.alloc o_).frozen? ⟨g8,1,none⟩ = false:=fun o_=>bf (af m8 o_) 1
  have a6w:∀ o_,(W2.alloc o_).cell? ⟨g8,2,none⟩ = some (U Z 0):=fun o_=>(ah (af m8 o_) 2).trans rfl
  have a6x:∀ o_,(W2.alloc o_).frozen? ⟨g8,2,none⟩ = false:=fun o_=>bf (af m8 o_) 2
  have a6y:∀ o_,(W2.alloc o_).cell? ⟨g8,3,none⟩ = some (U Z 0):=fun o_=>(ah (af m8 o_) 3).trans rfl
  have a6z:∀ o_,(W2.alloc o_).frozen? ⟨g8,3,none⟩ = false:=fun o_=>bf (af m8 o_) 3
  go_wp2
  exact bodyPost_ret (nW rfl _ _ g8 31 #[U Z 0,U Z 0,U Z 0,U Z 0] (0,0) _ rfl (aN (aN (aN (aN (af m8 _) 0 (U Z 0) rfl) 1 (U Z 0) rfl) 2 (U Z 0) rfl) 3 (U Z 0) rfl) Try.underlying31 rfl aM) rfl ⟨adX,(Below.setCell (p:=⟨g8,3,none⟩) (Below.setCell (p:=⟨g8,2,none⟩) (Below.setCell (p:=⟨g8,1,none⟩) (Below.setCell (p:=⟨g8,0,none⟩) (bA mB _) hG8 _) hG8 _) hG8 _) hG8 _)⟩
 case pos =>
  obtain ⟨hG,⟨hk0,hk1⟩,_⟩:=hok hr
  clear hok
  have HE2:=Lib.hid (HE.out.trans (if_neg (fun h=>h hr)))
  clear HE
  have aBG:=Lib.hid (HRV.out.trans (if_pos hr))
  clear HRV
  rw [hr,aBG.out]
  clear hr aBG
  have kS:=fun W (h:nX W b s v)=>alK b s v (fu s v x) W h hS.n hG hS.sh
  have kD:=fun W (h:nX W b s v)=>al8 b s v x (fu s v x) t hd layer W h hS.n hV hS.cu hS.cb hx.1 hG hk0 hk1 hh0 hh1 hl0 hl1
  clear hS hV hx hG hk0 hk1 hh0 hh1 hl0 hl1
  have hsf:=aa3 s (fu s v x)
  generalize Dp s v x (fu s v x) t hd layer = Y at*
  generalize fu s v x = G at*
  generalize DU s G = F at*
  go_wp2_with fail
  have O6:=eG m5
  have alF:=eG m7
  have ayb:=eG m8
  have m10:jh (W2.alloc (.cells #[U Z G.f0.f0,U Z G.f0.f1,U Z G.f1.f0,U Z G.f1.f1] 31)) (W2.heap.size) #[U Z G.f0.f0,U Z G.f0.f1,U Z G.f1.f0,U Z G.f1.f1] 31:=(by have h_:=gT W2 (.cells #[U Z G.f0.f0,U Z G.f0.f1,U Z G.f1.f0,U Z G.f1.f1] 31);first|exact h_|(simp only [World.size_alloc] at h_;exact h_))
  replace m5:jh (W2.alloc (.cells #[U Z G.f0.f0,U Z G.f0.f1,U Z G.f1.f0,U Z G.f1.f1] 31)) g5 #[U Z x.f0.f0,U Z x.f0.f1,U Z x.f1.f0,U Z x.f1.f1] 31:=(af m5 _)
  replace m7:jh (W2.alloc (.cells #[U Z G.f0.f0,U Z G.f0.f1,U Z G.f1.f0,U Z G.f1.f1] 31)) g7 #[U Z hd,U Z layer] 33:=(af m7 _)
  replace m8:jh (W2.alloc (.cells #[U Z G.f0.f0,U Z G.f0.f1,U Z G.f1.f0,U Z G.f1.f1] 31)) g8 #[U Z 0,U Z 0,U Z 0,U Z 0] 31:=(af m8 _)
  replace mB:Below w.heap.size w (W2.alloc (.cells #[U Z G.f0.f0,U Z G.f0.f1,U Z G.f1.f0,U Z G.f1.f1] 31)):=(bA mB _)
  have oI:w.heap.size≤W2.heap.size:=Dl
  generalize yX:(W2.alloc (.cells #[U Z G.f0.f0,U Z G.f0.f1,U Z G.f1.f0,U Z G.f1.f1] 31)) = W3 at m5 m7 m8 m10 mB ⊢
  clear yX
  generalize adR:W2.heap.size = g10 at m10 ⊢
  have pU:g5≠g10:=by omega
  have MW:g7≠g10:=by omega
  have aqk:g8≠g10:=by omega
  have WU:g10≠g5:=pU.symm
  have afv:g10≠g7:=MW.symm
  have aOA:g10≠g8:=aqk.symm
  have rA:w.heap.size≤g10:=by omega
  clear oI O6 alF ayb
  try clear adR
  have LA:w.heap.size≤W3.heap.size:=mB.size
  have hcon:=kS W3 (hT.below mB)
  (with_reducible refine hcon.mono ?_)
  clear hcon
  rintro e W4 ⟨rfl,hb⟩
  replace m5:=aU m5 hb
  replace m7:=aU m7 hb
  replace m8:=aU m8 hb
  replace m10:=aU m10 hb
  replace mB:=dY mB hb
  clear hb
  have aaI:w.heap.size≤W4.heap.size:=mB.size
  clear kS
  rcases hsf with rfl|rfl
  case inr =>
   have HZ:Hid (qz s v x t = 21):=Lib.hid (HE2.out)
   try clear HE
   have HV2:Hid (oP s v x t hd layer = z31):=Lib.hid (HV.out.trans (if_neg (by rw [HZ.out];decide)))
   clear HV
   obtain ⟨aaK,aaL,ad1,ad2,aBn,aBo,aWz,aWA⟩:=jc m8
   go_wp2
   exact bodyPost_ret (nW rfl _ _ g8 31 #[U Z 0,U Z 0,U Z 0,U Z 0] (0,0) _ rfl (aN (aN (aN (aN m8 0 (U Z 0) rfl) 1 (U Z 0) rfl) 2 (U Z 0) rfl) 3 (U Z 0) rfl) Try.underlying31 rfl aM) rfl ⟨adX,(Below.setCell (p:=⟨g8,3,none⟩) (Below.setCell (p:=⟨g8,2,none⟩) (Below.setCell (p:=⟨g8,1,none⟩) (Below.setCell (p:=⟨g8,0,none⟩) mB hG8 _) hG8 _) hG8 _) hG8 _)⟩
  case inl =>
   have HV2:=Lib.hid (HV.out.trans (if_pos HE2.out))
   clear HV
   obtain ⟨Q4,TK,ama,amb⟩:=xy m5
   obtain ⟨ad3,ad4⟩:=GJ m7
   obtain ⟨MO,MP,MQ,MR⟩:=xy m10
   go_wp2_with fail
   clear Q4 TK ama amb ad3 ad4 MO MP MQ MR
   have hcon:=kD W4 (hT.below mB)
   (with_reducible refine hcon.mono ?_)
   clear hcon
   rintro e W5 ⟨rfl,hb⟩
   replace m5:=aU m5 hb
   replace m7:=aU m7 hb
   replace m8:=aU m8 hb
   replace m10:=aU m10 hb
   replace mB:=dY mB hb
   clear hb
   have afi:w.heap.size≤W5.heap.size:=mB.size
   clear kD
   obtain ⟨aaK,aaL,ad1,ad2,aBn,aBo,aWz,aWA⟩:=jc m8
   go_wp2
   exact bodyPost_ret (nW rfl _ _ g8 31 #[U Z Y.f0.f0,U Z Y.f0.f1,U Z Y.f1.f0,U Z Y.f1.f1] (0,0) _ rfl (aN (aN (aN (aN m8 0 (U Z Y.f0.f0) rfl) 1 (U Z Y.f0.f1) rfl) 2 (U Z Y.f1.f0) rfl) 3 (U Z Y.f1.f1) rfl) Try.underlying31 rfl aM) rfl ⟨by rw [HV2.out,HE2.out];rfl,(Below.setCell (p:=⟨g8,3,none⟩) (Below.setCell (p:=⟨g8,2,none⟩) (Below.setCell (p:=⟨g8,1,none⟩) (Below.setCell (p:=⟨g8,0,none⟩) mB hG8 _) hG8 _) hG8 _) hG8 _)⟩
end Go.Proofs.Ytmhaiihjfgfaoaa.Gl
end
section
namespace Go.Proofs.Ytmhaiihjfgfaoaa.Pr
open Go.RowKit Go.Proofs.YtmhaiihjfgfaoaaW.PrintWords Go.Proofs.YtmhaiihjfgfaoaaW.PrintLast Go.Proofs.YtmhaiihjfgfaoaaW.PrintMore
attribute [local go_sem] gp gq iA iB gu
set_option linter.unusedVariables false
set_option linter.unusedSimpArgs false
def eO.f (a0:Int):Option (Int):=some (mx a0 (wrap64 (-a0)))
set_option maxHeartbeats 8000000 in
set_option maxRecDepth 100000 in
theorem eO.calls (a0:Int) (r:Int) (w:World) (h:eO.f a0 = some r):
 Calls Try.prog 117 #[U Z a0] w fun e w'=>e = .returned (U Z r)∧Below w.heap.size w w':=by
 have HB:=aa.mk (Below.refl w.heap.size w)
 have H:(some (mx a0 (wrap64 (-a0)))) = some r:=h
 clear h
 obtain ⟨ji2,aql⟩:∃ j_:Int,(mx a0 (wrap64 (-a0))) = j_:=⟨_,rfl⟩
 replace H:(some ji2) = some r:=by first|(rw [aql] at H;exact H)|(simp only [aql] at H ⊢;exact H)
 have a1D:(if a0 < (wrap64 (-a0)) then (wrap64 (-a0)) else a0) = ji2:=aql
 obtain rfl:=Option.some.inj H
 go_enter Try.func117,Try.ntmps117
 go_wp2
 go_ret
 exact ⟨by first|rfl|(simp [kX,kY] <;> rfl)|(simp only [← aql];first|rfl|(simp [kX,kY] <;> rfl))|(simp [*,kX,kY] <;> rfl),gL⟩
def eZ.f (k:Nat) (ai:Int) (aj:Int) (aC:Int) (aD:Int):Option (Int):=(dU.f k (([(⟨ai,aj⟩:ky),(⟨aC,aD⟩:ky)]:List (ky)))).bind fun t148=>(if t148 = 0 then ((eO.f ai).bind fun t149=>((eO.f aj).bind fun t150=>((eO.f aC).bind fun t151=>((eO.f aD).bind fun t152=>(if (mx (mx (mx t149 t150) t151) t152) > 268435456 then (some 2) else (some 0)))))) else (some t148))
def eZ.T4:Bool × List (List Nat × List Nat):=(true,[([],[]),([0],[0]),([1],[1]),([2],[2]),([],[]),([4],[4]),([5],[5]),([6,3],[6]),([],[]),([8],[8]),([9],[9]),([10,7],[10]),([],[]),([12],[12]),([13],[13]),([14,11],[14]),([3,7,11,15],[3,7,11,15]),([16],[16])])
def eZ.B4:List Nat:=[0,1,3,7,0,16,48,127,0,256,768,2047,0,4096,12288,32767,65535,131071]
theorem eZ.aj0:qA .any (opsOf Try.f67 4) = eZ.T4:=by kernel_rfl
theorem eZ.VP:mI eZ.T4.2 eZ.B4 = true:=by kernel_rfl
set_option maxHeartbeats 8000000 in
set_option maxRecDepth 100000 in
theorem eZ.calls (k:Nat) (ai:Int) (aj:Int) (aC:Int) (aD:Int) (r:Int) (w:World) (h:eZ.f k ai aj aC aD = some r):
 Calls Try.prog 67 #[.agg #[U Z ai,U Z aj,U Z aC,U Z aD]] w fun e w'=>e = .returned (U Z r)∧Below w.heap.size w w':=by
 have rO:=Try.underlying31
 have pz:=Try.underlying27
 have HB:=aa.mk (Below.refl w.heap.size w)
 have H:((dU.f k (([(⟨ai,aj⟩:ky),(⟨aC,aD⟩:ky)]:List (ky)))).bind fun t148=>(if t148 = 0 then ((eO.f ai).bind fun t149=>((eO.f aj).bind fun t150=>((eO.f aC).bind fun t151=>((eO.f aD).bind fun t152=>(if (mx (mx (mx t149 t150) t151) t152) > 268435456 then (some 2) else (some 0)))))) else (some t148))) = some r:=h
 clear h
 obtain ⟨ad5,aa5⟩:∃ y_:List (ky),y_ = (([(⟨ai,aj⟩:ky),(⟨aC,aD⟩:ky)]:List (ky))):=⟨_,rfl⟩
 replace H:((dU.f k ad5).bind fun t148=>(if t148 = 0 then ((eO.f ai).bind fun t149=>((eO.f aj).bind fun t150=>((eO.f aC).bind fun t151=>((eO.f aD).bind fun t152=>(if (mx (mx (mx t149 t150) t151) t152) > 268435456 then (some 2) else (some 0)))))) else (some t148))) = some r:=by first|(rw [aa5];with_reducible exact H)|(have Ji:=(Option.bind_some _ _).symm.trans H;rw [aa5];with_reducible exact Ji)|(have Ji:=(Option.bind_some _ _).symm.trans H;with_reducible exact Ji)|with_reducible exact H|(rw [aa5];exact H)|exact H
 have VQ:=aa.mk aa5
 clear aa5
 replace H:=Option.bind_eq_some_iff.mp H
 obtain ⟨t148,VR,H⟩:=H
 replace H:(if t148 = 0 then ((eO.f ai).bind fun t149=>((eO.f aj).bind fun t150=>((eO.f aC).bind fun t151=>((eO.f aD).bind fun t152=>(if (mx (mx (mx t149 t150) t151) t152) > 268435456 then (some 2) else (some 0)))))) else (some t148)) = some r:=H
 have A2:=aa.mk VR
 clear VR
 by_cases c3:t148 = 0
 ·rw [if_pos c3] at H
  have Cc:(t148 == 0) = true:=beq_iff_eq.mpr c3
  have MZ:(t148 != 0) = false:=bne_eq_false_iff_eq.mpr c3
  clear c3
  replace H:=Option.bind_eq_some_iff.mp H
  obtain ⟨t149,M0,H⟩:=H
  replace H:((eO.f aj).bind fun t150=>((eO.f aC).bind fun t151=>((eO.f aD).bind fun t152=>(if (mx (mx (mx t149 t150) t151) t152) > 268435456 then (some 2) else (some 0))))) = some r:=H
  have A4:=aa.mk M0
  clear M0
  replace H:=Option.bind_eq_some_iff.mp H
  obtain ⟨t150,QF,H⟩:=H
  replace H:((eO.f aC).bind fun t151=>((eO.f aD).bind fun t152=>(if (mx (mx (mx t149 t150) t151) t152) > 268435456 then (some 2) else (some 0)))) = some r:=H
  have A5:=aa.mk QF
  clear QF
  replace H:=Option.bind_eq_some_iff.mp H
  obtain ⟨t151,QG,H⟩:=H
  replace H:((eO.f aD).bind fun t152=>(if (mx (mx (mx t149 t150) t151) t152) > 268435456 then (some 2) else (some 0))) = some r:=H
  have A6:=aa.mk QG
  clear QG
  replace H:=Option.bind_eq_some_iff.mp H
  obtain ⟨t152,A70,H⟩:=H
  replace H:(if (mx (mx (mx t149 t150) t151) t152) > 268435456 then (some 2) else (some 0)) = some r:=H
  have A7:=aa.mk A70
  clear A70
  obtain ⟨ji8,Xa⟩:∃ j_:Int,(mx t149 t150) = j_:=⟨_,rfl⟩
  replace H:(if (mx (mx (ji8) t151) t152) > 268435456 then (some 2) else (some 0)) = some r:=by first|(rw [Xa] at H;exact H)|(simp only [Xa] at H ⊢;exact H)
  (try rw [Xa] at A2)
  (try rw [Xa] at A4)
  (try rw [Xa] at A5)
  (try rw [Xa] at A6)
  (try rw [Xa] at A7)
  have a1E:(if t149 < t150 then t150 else t149) = ji8:=Xa
  obtain ⟨ji9,Xb⟩:∃ j_:Int,(mx (ji8) t151) = j_:=⟨_,rfl⟩
  replace H:(if (mx (ji9) t152) > 268435456 then (some 2) else (some 0)) = some r:=by first|(rw [Xb] at H;exact H)|(simp only [Xb] at H ⊢;exact H)
  (try rw [Xb] at A2)
  (try rw [Xb] at A4)
  (try rw [Xb] at A5)
  (try rw [Xb] at A6)
  (try rw [Xb] at A7)
  have a1F:(if (ji8) < t151 then t151 else (ji8)) = ji9:=Xb
  obtain ⟨amc,M3⟩:∃ j_:Int,(mx (ji9) t152) = j_:=⟨_,rfl⟩
  replace H:(if (amc) > 268435456 then (some 2) else (some 0)) = some r:=by first|(rw [M3] at H;exact H)|(simp only [M3] at H ⊢;exact H)
  (try rw [M3] at A2)
  (try rw [M3] at A4)
  (try rw [M3] at A5)
  (try rw [M3] at A6)
  (try rw [M3] at A7)
  have aWB:(if (ji9) < t152 then t152 else (ji9)) = amc:=M3
  by_cases c11:(amc) > 268435456
  ·rw [if_pos c11] at H
   have Jj:decide (268435456 < (amc)) = true:=decide_eq_true c11
   clear c11
   obtain rfl:=Option.some.inj H
   go_enter Try.func67,Try.ntmps67
   try go_wp2_with (first|((with_reducible refine aA (N:=1) rfl ?_);refine au (by rfl) (N:=1) (by rfl) (cs:=#[U Z ai,U Z aj,U Z aC,U Z aD]) (t:=31) fG ?_;intro LC hg O3 hbox hb;have kL:=aa.mk (hbox);have awi:=bS HB hg;have awj:=bS HB hg;replace HB:=cO HB hb;clear hb hbox hg;obtain ⟨ug,uh,Aw,Ay,ui,uj,Az,AA⟩:=jc kL.out)|((with_reducible refine aA (N:=8) rfl ?_);refine Kd.Dk k27 _ 27 (by rfl) (N:=8) (by rfl) (xs:=([(⟨ai,aj⟩:ky),(⟨aC,aD⟩:ky)]:List (ky))) (inner:=[U Z ai,U Z aj,U Z aC,U Z aD]) (ok:=fun _=>True) (okp:=fun _=>True) fG ayB (fun _ hk=>hk) trivial (Below.refl _ _) (Nat.le_refl _) (by simp) ?_;intro v146 w14 amd hb M4 pW;clear M4 pW;(first|rw [← VQ.out] at amd|(simp only [Int.reduceToNat] at amd;rw [← VQ.out] at amd));have mQ:=aa.mk (Kd.lX amd (iq gL));replace kL:=aX kL hb;replace HB:=cO HB hb;clear hb amd;obtain ⟨aWC,aWD,aWE⟩:=Kd.nR mQ.out;subst aWE)|((with_reducible refine aQ (f:=116) rfl ?_);refine dn (some 9) rfl rfl Try.func116 aM rfl #[.slice aWC ad5.length aWD] rfl ji ?_;(with_reducible refine (dU.calls k _ _ ad5 t148 _ ?cZ ?df A2.out).mono ?_);(case cZ=>repeat (first|exact (Kd.gZ mQ.out).2.2|(with_reducible refine Kd.bC ?_ _)|(with_reducible refine Kd.bD ?_ _)|(with_reducible refine Kd.bN ?_)));(case df=>exact (Kd.gZ mQ.out).2.1);rintro e Fb ⟨rfl,hb⟩;refine ⟨_,rfl,?_⟩;replace mQ:=zt mQ hb;replace kL:=aX kL hb;replace HB:=cO HB hb;(try clear hb);(try clear hb2);(try clear hk);(try clear hi)))
   replace mQ:=aa.mk (Kd.mg mQ.out)
   replace kL:=aa.mk (ag kL.out)
   replace HB:=aa.mk (bO HB.out)
   refine iN (n:=18) (S:=fun w'=>w'.cell? ⟨LC,0,none⟩ = some (U Z ai)∧w'.cell? ⟨LC,1,none⟩ = some (U Z aj)∧w'.cell? ⟨LC,2,none⟩ = some (U Z aC)∧w'.cell? ⟨LC,3,none⟩ = some (U Z aD)) (ds:=[]) #[ac,ac,ac,ac,ac,ac,ac,ac,ac,ac,ac,ac,ac,ac,ac,ac,ac,ac] aM rfl rfl (xy kL.out) (fun hHeld=>?_);refine fU eZ.aj0 eZ.VP (fun bz jb=>?_)
   generalize Fb.drew = w18 at mQ kL HB hHeld ⊢
   refine bV (i:=0) (N:=some 13) (ax bz.out aM) ?_
   refine bV (i:=1) (N:=some 14) (ax bz.out aM) ?_
   refine bV (i:=4) (N:=some 17) (ax bz.out aM) ?_
   refine bV (i:=5) (N:=some 18) (ax bz.out aM) ?_
   refine bV (i:=8) (N:=some 21) (ax bz.out aM) ?_
   refine bV (i:=9) (N:=some 22) (ax bz.out aM) ?_
   refine bV (i:=12) (N:=some 25) (ax bz.out aM) ?_
   refine bV (i:=13) (N:=some 26) (ax bz.out aM) ?_
   refine iL (i:=2) (N:=some 15) (aY bz.out jb.out aM) hHeld ?_
   refine iL (i:=6) (N:=some 19) (aY bz.out jb.out aM) hHeld ?_
   refine iL (i:=10) (N:=some 23) (aY bz.out jb.out aM) hHeld ?_
   refine iL (i:=14) (N:=some 27) (aY bz.out jb.out aM) hHeld ?_
   refine iO (i:=3) (N:=some 16) #[ab,ab,ab,ab,ab,ab,ab,ac,ab,ab,ab,ac,ab,ab,ab,ac,ac,ac] rfl rfl (eH bz.out aM) (by decide) (fun K hK=>?_)
   refine gJ Try.func117 aM rfl #[U Z ai] (by rfl) rfl rfl ji ?_
   with_reducible refine (eO.calls ai t149 _ A4.out).mono ?_
   rintro e w19 ⟨rfl,hb⟩
   refine ⟨_,rfl,?_⟩
   replace mQ:=zt mQ hb
   replace kL:=aX kL hb
   replace HB:=cO HB hb
   (try clear hb)
   (try clear hb2)
   (try clear hk)
   (try clear hi)
   refine hK.out _ _ (xy kL.out) (fun hHeld=>?_)
   clear hK K
   refine dM ajW ?_
   refine iO (i:=7) (N:=some 20) #[ab,ab,ab,ab,ab,ab,ab,ab,ab,ab,ab,ac,ab,ab,ab,ac,ac,ac] rfl rfl (eH bz.out aM) (by decide) (fun K hK=>?_)
   refine gJ Try.func117 aM rfl #[U Z aj] (by rfl) rfl rfl ji ?_
   with_reducible refine (eO.calls aj t150 _ A5.out).mono ?_
   rintro e I4 ⟨rfl,hb⟩
   refine ⟨_,rfl,?_⟩
   replace mQ:=zt mQ hb
   replace kL:=aX kL hb
   replace HB:=cO HB hb
   (try clear hb)
   (try clear hb2)
   (try clear hk)
   (try clear hi)
   refine hK.out _ _ (xy kL.out) (fun hHeld=>?_)
   clear hK K
   refine dM aBK ?_
   refine iO (i:=11) (N:=some 24) #[ab,ab,ab,ab,ab,ab,ab,ab,ab,ab,ab,ab,ab,ab,ab,ac,ac,ac] rfl rfl (eH bz.out aM) (by decide) (fun K hK=>?_)
   refine gJ Try.func117 aM rfl #[U Z aC] (by rfl) rfl rfl ji ?_
   with_reducible refine (eO.calls aC t151 _ A6.out).mono ?_
   rintro e w21 ⟨rfl,hb⟩
   refine ⟨_,rfl,?_⟩
   replace mQ:=zt mQ hb
   replace kL:=aX kL hb
   replace HB:=cO HB hb
   (try clear hb)
   (try clear hb2)
   (try clear hk)
   (try clear hi)
   refine hK.out _ _ (xy kL.out) (fun hHeld=>?_)
   clear hK K
   refine dM ame ?_
   refine iO (i:=15) (N:=some 28) #[ab,ab,ab,ab,ab,ab,ab,ab,ab,ab,ab,ab,ab,ab,ab,ab,ac,ac] rfl rfl (eH bz.out aM) (by decide) (fun K hK=>?_)
   refine gJ Try.func117 aM rfl #[U Z aD] (by rfl) rfl rfl ji ?_
   with_reducible refine (eO.calls aD t152 _ A7.out).mono ?_
   rintro e w22 ⟨rfl,hb⟩
   refine ⟨_,rfl,?_⟩
   replace mQ:=zt mQ hb
   replace kL:=aX kL hb
   replace HB:=cO HB hb
   (try clear hb)
   (try clear hb2)
   (try clear hk)
   (try clear hi)
   refine hK.out _ _ (xy kL.out) (fun hHeld=>?_)
   clear hK K
   refine dM aBL ?_
   refine bV (i:=16) (N:=some 29) (ax bz.out aM) ?_
   refine bV (i:=17) (N:=some 30) (ax bz.out aM) ?_
   refine jS (ja bz.out aM) ?_
   try go_wp2
   go_ret
   exact ⟨aBM,gL⟩
  ·rw [if_neg c11] at H
   have Jj:decide (268435456 < (amc)) = false:=decide_eq_false c11
   clear c11
   obtain rfl:=Option.some.inj H
   go_enter Try.func67,Try.ntmps67
   try go_wp2_with (first|((with_reducible refine aA (N:=1) rfl ?_);refine au (by rfl) (N:=1) (by rfl) (cs:=#[U Z ai,U Z aj,U Z aC,U Z aD]) (t:=31) fG ?_;intro LC hg w23 hbox hb;have kL:=aa.mk (hbox);have awi:=bS HB hg;have awj:=bS HB hg;replace HB:=cO HB hb;clear hb hbox hg;obtain ⟨rC,rD,xE,xG,rE,rF,xH,xI⟩:=jc kL.out)|((with_reducible refine aA (N:=8) rfl ?_);refine Kd.Dk k27 _ 27 (by rfl) (N:=8) (by rfl) (xs:=([(⟨ai,aj⟩:ky),(⟨aC,aD⟩:ky)]:List (ky))) (inner:=[U Z ai,U Z aj,U Z aC,U Z aD]) (ok:=fun _=>True) (okp:=fun _=>True) fG ayB (fun _ hk=>hk) trivial (Below.refl _ _) (Nat.le_refl _) (by simp) ?_;intro v146 w25 amf hb M4 pW;clear M4 pW;(first|rw [← VQ.out] at amf|(simp only [Int.reduceToNat] at amf;rw [← VQ.out] at amf));have mQ:=aa.mk (Kd.lX amf (iq gL));replace kL:=aX kL hb;replace HB:=cO HB hb;clear hb amf;obtain ⟨aWF,aWG,aWH⟩:=Kd.nR mQ.out;subst aWH)|((with_reducible refine aQ (f:=116) rfl ?_);refine dn (some 9) rfl rfl Try.func116 aM rfl #[.slice aWF ad5.length aWG] rfl ji ?_;(with_reducible refine (dU.calls k _ _ ad5 t148 _ ?cZ ?df A2.out).mono ?_);(case cZ=>repeat (first|exact (Kd.gZ mQ.out).2.2|(with_reducible refine Kd.bC ?_ _)|(with_reducible refine Kd.bD ?_ _)|(with_reducible refine Kd.bN ?_)));(case df=>exact (Kd.gZ mQ.out).2.1);rintro e w28 ⟨rfl,hb⟩;refine ⟨_,rfl,?_⟩;replace mQ:=zt mQ hb;replace kL:=aX kL hb;replace HB:=cO HB hb;(try clear hb);(try clear hb2);(try clear hk);(try clear hi)))
   replace mQ:=aa.mk (Kd.mg mQ.out)
   replace kL:=aa.mk (ag kL.out)
   replace HB:=aa.mk (bO HB.out)
   refine iN (n:=18) (S:=fun w'=>w'.cell? ⟨LC,0,none⟩ = some (U Z ai)∧w'.cell? ⟨LC,1,none⟩ = some (U Z aj)∧w'.cell? ⟨LC,2,none⟩ = some (U Z aC)∧w'.cell? ⟨LC,3,none⟩ = some (U Z aD)) (ds:=[]) #[ac,ac,ac,ac,ac,ac,ac,ac,ac,ac,ac,ac,ac,ac,ac,ac,ac,ac] aM rfl rfl (xy kL.out) (fun hHeld=>?_);refine fU eZ.aj0 eZ.VP (fun bz jb=>?_)
   generalize w28.drew = w29 at mQ kL HB hHeld ⊢
   refine bV (i:=0) (N:=some 13) (ax bz.out aM) ?_
   refine bV (i:=1) (N:=some 14) (ax bz.out aM) ?_
   refine bV (i:=4) (N:=some 17) (ax bz.out aM) ?_
   refine bV (i:=5) (N:=some 18) (ax bz.out aM) ?_
   refine bV (i:=8) (N:=some 21) (ax bz.out aM) ?_
   refine bV (i:=9) (N:=some 22) (ax bz.out aM) ?_
   refine bV (i:=12) (N:=some 25) (ax bz.out aM) ?_
   refine bV (i:=13) (N:=some 26) (ax bz.out aM) ?_
   refine iL (i:=2) (N:=some 15) (aY bz.out jb.out aM) hHeld ?_
   refine iL (i:=6) (N:=some 19) (aY bz.out jb.out aM) hHeld ?_
   refine iL (i:=10) (N:=some 23) (aY bz.out jb.out aM) hHeld ?_
   refine iL (i:=14) (N:=some 27) (aY bz.out jb.out aM) hHeld ?_
   refine iO (i:=3) (N:=some 16) #[ab,ab,ab,ab,ab,ab,ab,ac,ab,ab,ab,ac,ab,ab,ab,ac,ac,ac] rfl rfl (eH bz.out aM) (by decide) (fun K hK=>?_)
   refine gJ Try.func117 aM rfl #[U Z ai] (by rfl) rfl rfl ji ?_
   with_reducible refine (eO.calls ai t149 _ A4.out).mono ?_
   rintro e w30 ⟨rfl,hb⟩
   refine ⟨_,rfl,?_⟩
   replace mQ:=zt mQ hb
   replace kL:=aX kL hb
   replace HB:=cO HB hb
   (try clear hb)
   (try clear hb2)
   (try clear hk)
   (try clear hi)
   refine hK.out _ _ (xy kL.out) (fun hHeld=>?_)
   clear hK K
   refine dM ajW ?_
   refine iO (i:=7) (N:=some 20) #[ab,ab,ab,ab,ab,ab,ab,ab,ab,ab,ab,ac,ab,ab,ab,ac,ac,ac] rfl rfl (eH bz.out aM) (by decide) (fun K hK=>?_)
   refine gJ Try.func117 aM rfl #[U Z aj] (by rfl) rfl rfl ji ?_
   with_reducible refine (eO.calls aj t150 _ A5.out).mono ?_
   rintro e w31 ⟨rfl,hb⟩
   refine ⟨_,rfl,?_⟩
   replace mQ:=zt mQ hb
   replace kL:=aX kL hb
   replace HB:=cO HB hb
   (try clear hb)
   (try clear hb2)
   (try clear hk)
   (try clear hi)
   refine hK.out _ _ (xy kL.out) (fun hHeld=>?_)
   clear hK K
   refine dM aBK ?_
   refine iO (i:=11) (N:=some 24) #[ab,ab,ab,ab,ab,ab,ab,ab,ab,ab,ab,ab,ab,ab,ab,ac,ac,ac] rfl rfl (eH bz.out aM) (by decide) (fun K hK=>?_)
   refine gJ Try.func117 aM rfl #[U Z aC] (by rfl) rfl rfl ji ?_
   with_reducible refine (eO.calls aC t151 _ A6.out).mono ?_
   rintro e w32 ⟨rfl,hb⟩
   refine ⟨_,rfl,?_⟩
   replace mQ:=zt mQ hb
   replace kL:=aX kL hb
   replace HB:=cO HB hb
   (try clear hb)
   (try clear hb2)
   (try clear hk)
   (try clear hi)
   refine hK.out _ _ (xy kL.out) (fun hHeld=>?_)
   clear hK K
   refine dM ame ?_
   refine iO (i:=15) (N:=some 28) #[ab,ab,ab,ab,ab,ab,ab,ab,ab,ab,ab,ab,ab,ab,ab,ab,ac,ac] rfl rfl (eH bz.out aM) (by decide) (fun K hK=>?_)
   refine gJ Try.func117 aM rfl #[U Z aD] (by rfl) rfl rfl ji ?_
   with_reducible refine (eO.calls aD t152 _ A7.out).mono ?_
   rintro e I5 ⟨rfl,hb⟩
   refine ⟨_,rfl,?_⟩
   replace mQ:=zt mQ hb
   replace kL:=aX kL hb
   replace HB:=cO HB hb
   (try clear hb)
   (try clear hb2)
   (try clear hk)
   (try clear hi)
   refine hK.out _ _ (xy kL.out) (fun hHeld=>?_)
   clear hK K
   refine dM aBL ?_
   refine bV (i:=16) (N:=some 29) (ax bz.out aM) ?_
   refine bV (i:=17) (N:=some 30) (ax bz.out aM) ?_
   refine jS (ja bz.out aM) ?_
   try go_wp2
   go_ret
   exact ⟨aBM,gL⟩
 ·rw [if_neg c3] at H
  have Cc:(t148 == 0) = false:=beq_eq_false_iff_ne.mpr c3
  have MZ:(t148 != 0) = true:=bne_iff_ne.mpr c3
  obtain rfl:=Option.some.inj H
  go_enter Try.func67,Try.ntmps67
  go_wp2_with (first|((with_reducible refine aA (N:=1) rfl ?_);refine au (by rfl) (N:=1) (by rfl) (cs:=#[U Z ai,U Z aj,U Z aC,U Z aD]) (t:=31) fG ?_;intro LC hg w34 hbox hb;have kL:=aa.mk (hbox);have awi:=bS HB hg;have awj:=bS HB hg;replace HB:=cO HB hb;clear hb hbox hg;obtain ⟨D6,D7,JL,JM,D8,D9,JN,JO⟩:=jc kL.out)|((with_reducible refine aA (N:=8) rfl ?_);refine Kd.Dk k27 _ 27 (by rfl) (N:=8) (by rfl) (xs:=([(⟨ai,aj⟩:ky),(⟨aC,aD⟩:ky)]:List (ky))) (inner:=[U Z ai,U Z aj,U Z aC,U Z aD]) (ok:=fun _=>True) (okp:=fun _=>True) fG ayB (fun _ hk=>hk) trivial (Below.refl _ _) (Nat.le_refl _) (by simp) ?_;intro v146 w36 amg hb M4 pW;clear M4 pW;(first|rw [← VQ.out] at amg|(simp only [Int.reduceToNat] at amg;rw [← VQ.out] at amg));have mQ:=aa.mk (Kd.lX amg (iq gL));replace kL:=aX kL hb;replace HB:=cO HB hb;clear hb amg;obtain ⟨ayD,ayE,ayF⟩:=Kd.nR mQ.out;subst ayF)|((with_reducible refine aQ (f:=116) rfl ?_);refine dn (some 9) rfl rfl Try.func116 aM rfl #[.slice ayD ad5.length ayE] rfl ji ?_;(with_reducible refine (dU.calls k _ _ ad5 t148 _ ?cZ ?df A2.out).mono ?_);(case cZ=>repeat (first|exact (Kd.gZ mQ.out).2.2|(with_reducible refine Kd.bC ?_ _)|(with_reducible refine Kd.bD ?_ _)|(with_reducible refine Kd.bN ?_)));(case df=>exact (Kd.gZ mQ.out).2.1);rintro e w39 ⟨rfl,hb⟩;refine ⟨_,rfl,?_⟩;replace mQ:=zt mQ hb;replace kL:=aX kL hb;replace HB:=cO HB hb;(try clear hb);(try clear hb2);(try clear hk);(try clear hi)))
  go_ret
  exact ⟨lW,gL⟩
def pX.f (k:Nat) (ai:Int) (aj:Int) (aC:Int) (aD:Int) (a1:Int):Option (Int):=(eZ.f k ai aj aC aD).bind fun t154=>(if t154 = 0 then ((cB.f a1 0 1073741824).bind fun t155=>(if t155 = true then (some 0) else (some 3))) else (some t154))
set_option maxHeartbeats 8000000 in
set_option maxRecDepth 100000 in
theorem pX.calls (k:Nat) (ai:Int) (aj:Int) (aC:Int) (aD:Int) (a1:Int) (r:Int) (w:World) (h:pX.f k ai aj aC aD a1 = some r):
 Calls Try.prog 114 #[.agg #[U Z ai,U Z aj,U Z aC,U Z aD],U Z a1] w fun e w'=>e = .returned (U Z r)∧Below w.heap.size w w':=by
 have rO:=Try.underlying31
 have HB:=aa.mk (Below.refl w.heap.size w)
 have H:((eZ.f k ai aj aC aD).bind fun t154=>(if t154 = 0 then ((cB.f a1 0 1073741824).bind fun t155=>(if t155 = true then (some 0) else (some 3))) else (some t154))) = some r:=h
 clear h
 replace H:=Option.bind_eq_some_iff.mp H
 obtain ⟨t154,QH,H⟩:=H
 replace H:(if t154 = 0 then ((cB.f a1 0 1073741824).bind fun t155=>(if t155 = true then (some 0) else (some 3))) else (some t154)) = some r:=H
 have A3:=aa.mk QH
 clear QH
 by_cases c4:t154 = 0
 ·rw [if_pos c4] at H
  have tN:(t154 == 0) = true:=beq_iff_eq.mpr c4
  have amh:(t154 != 0) = false:=bne_eq_false_iff_eq.mpr c4
  clear c4
  replace H:=Option.bind_eq_some_iff.mp H
  obtain ⟨t155,QF,H⟩:=H
  replace H:(if t155 = true then (some 0) else (some 3)) = some r:=H
  have A5:=aa.mk QF
  clear QF
  by_cases c6:t155 = true
  ·subst c6
   have H1:(some 0) = some r:=by rw [if_pos rfl] at H;exact H
   clear H
   have H:=H1
   clear H1
   obtain rfl:=Option.some.inj H
   go_enter Try.func114,Try.ntmps114
   go_wp2_with (first|((with_reducible refine aA (N:=2) rfl ?_);refine au (by rfl) (N:=2) (by rfl) (cs:=#[U Z ai,U Z aj,U Z aC,U Z aD]) (t:=31) fG ?_;intro awn hg w7 hbox hb;have Jk:=aa.mk (hbox);have awo:=bS HB hg;have awp:=bS HB hg;replace HB:=cO HB hb;clear hb hbox hg;obtain ⟨Md,Me,Xc,Xd,Mf,Mg,Xe,Xf⟩:=jc Jk.out)|((with_reducible refine aQ (f:=67) rfl ?_);refine dn (some 7) rfl rfl Try.func67 aM rfl #[.agg #[U Z ai,U Z aj,U Z aC,U Z aD]] rfl ji ?_;(with_reducible refine (eZ.calls k ai aj aC aD t154 _ A3.out).mono ?_);rintro e w9 ⟨rfl,hb⟩;refine ⟨_,rfl,?_⟩;replace Jk:=aX Jk hb;replace HB:=cO HB hb;(try clear hb);(try clear hb2);(try clear hk);(try clear hi))|((with_reducible refine aQ (f:=74) rfl ?_);refine dn (some 12) rfl rfl Try.func74 aM rfl #[U Z a1,U Z 0,U Z 1073741824] rfl ji ?_;(with_reducible refine (cB.calls a1 0 1073741824 true _ A5.out).mono ?_);rintro e w' ⟨rfl,⟨nd,rfl⟩⟩;refine ⟨_,rfl,?_⟩))
   go_ret
   exact ⟨lW,gL⟩
  ·replace c6:=Bool.eq_false_iff.mpr c6
   subst c6
   have H1:(some 3) = some r:=by rw [if_neg (show ¬ (false = true) by decide)] at H;exact H
   clear H
   have H:=H1
   clear H1
   obtain rfl:=Option.some.inj H
   go_enter Try.func114,Try.ntmps114
   go_wp2_with (first|((with_reducible refine aA (N:=2) rfl ?_);refine au (by rfl) (N:=2) (by rfl) (cs:=#[U Z ai,U Z aj,U Z aC,U Z aD]) (t:=31) fG ?_;intro awn hg w10 hbox hb;have Jk:=aa.mk (hbox);have awo:=bS HB hg;have awp:=bS HB hg;replace HB:=cO HB hb;clear hb hbox hg;obtain ⟨uk,um,xJ,xK,uo,uq,xL,xM⟩:=jc Jk.out)|((with_reducible refine aQ (f:=67) rfl ?_);refine dn (some 7) rfl rfl Try.func67 aM rfl #[.agg #[U Z ai,U Z aj,U Z aC,U Z aD]] rfl ji ?_;(with_reducible refine (eZ.calls k ai aj aC aD t154 _ A3.out).mono ?_);rintro e O3 ⟨rfl,hb⟩;refine ⟨_,rfl,?_⟩;replace Jk:=aX Jk hb;replace HB:=cO HB hb;(try clear hb);(try clear hb2);(try clear hk);(try clear hi))|((with_reducible refine aQ (f:=74) rfl ?_);refine dn (some 12) rfl rfl Try.func74 aM rfl #[U Z a1,U Z 0,U Z 1073741824] rfl ji ?_;(with_reducible refine (cB.calls a1 0 1073741824 false _ A5.out).mono ?_);rintro e w' ⟨rfl,⟨nd,rfl⟩⟩;refine ⟨_,rfl,?_⟩))
   go_ret
   exact ⟨lW,gL⟩
 ·rw [if_neg c4] at H
  have tN:(t154 == 0) = false:=beq_eq_false_iff_ne.mpr c4
  have amh:(t154 != 0) = true:=bne_iff_ne.mpr c4
  obtain rfl:=Option.some.inj H
  go_enter Try.func114,Try.ntmps114
  go_wp2_with (first|((with_reducible refine aA (N:=2) rfl ?_);refine au (by rfl) (N:=2) (by rfl) (cs:=#[U Z ai,U Z aj,U Z aC,U Z aD]) (t:=31) fG ?_;intro awn hg FD hbox hb;have Jk:=aa.mk (hbox);have awo:=bS HB hg;have awp:=bS HB hg;replace HB:=cO HB hb;clear hb hbox hg;obtain ⟨Aq,Ar,GL,GM,Au,Av,GN,GQ⟩:=jc Jk.out)|((with_reducible refine aQ (f:=67) rfl ?_);refine dn (some 7) rfl rfl Try.func67 aM rfl #[.agg #[U Z ai,U Z aj,U Z aC,U Z aD]] rfl ji ?_;(with_reducible refine (eZ.calls k ai aj aC aD t154 _ A3.out).mono ?_);rintro e w15 ⟨rfl,hb⟩;refine ⟨_,rfl,?_⟩;replace Jk:=aX Jk hb;replace HB:=cO HB hb;(try clear hb);(try clear hb2);(try clear hk);(try clear hi)))
  go_ret
  exact ⟨lW,gL⟩
def fK.l0:Nat→Int→List (xN)→Int→Int→Option (Int)
 |0,_,_,_,_=>none
 |k+1,x1,QI,x11,Ph=>if Ph < x11 then (if 0≤Ph then (if Ph < (QI.length:Int) then (if ((bJ QI Ph).f0) < 0 then (some 2) else (if ((bJ QI Ph).f0) ≥ 9 then (some 2) else (if ((bJ QI Ph).f1) < 0 then (some 2) else (if x1 ≥ 0 then (if ((bJ QI Ph).f1) ≥ x1 then (some 2) else (fK.l0 k x1 QI x11 (wrap64 (Ph+1)))) else (fK.l0 k x1 QI x11 (wrap64 (Ph+1))))))) else (none)) else (none)) else (some 0)
def fK.f (k:Nat) (l0:List (xN)) (a1:Int):Option (Int):=if (l0.length:Int) > 64 then (some 6) else (fK.l0 k a1 l0 (l0.length:Int) 0)
set_option maxHeartbeats 8000000 in
set_option maxRecDepth 100000 in
theorem fK.calls (k:Nat) (A0:Option Addr) (c0:Nat) (l0:List (xN)) (a1:Int) (r:Int) (w:World) (hr0:Kd.C k33 w A0 l0.length l0) (hc0:l0.length≤c0) (h:fK.f k l0 a1 = some r):
 Calls Try.prog 65 #[.slice A0 l0.length c0,U Z a1] w fun e w'=>e = .returned (U Z r)∧Below w.heap.size w w':=by
 have MV:=Try.underlying33
 have Mh:=aa.mk hr0
 have HC0:=aa.mk hc0
 clear hr0 hc0
 have HB:=aa.mk (Below.refl w.heap.size w)
 have H:(if (l0.length:Int) > 64 then (some 6) else (fK.l0 k a1 l0 (l0.length:Int) 0)) = some r:=h
 clear h
 by_cases c3:(l0.length:Int) > 64
 ·rw [if_pos c3] at H
  have Cc:decide (64 < (l0.length:Int)) = true:=decide_eq_true c3
  have MZ:decide (64 < l0.length) = true:=decide_eq_true (by omega)
  clear c3
  obtain rfl:=Option.some.inj H
  go_enter Try.func65,Try.ntmps65
  go_wp2
  go_ret
  exact ⟨lW,gL⟩
 ·rw [if_neg c3] at H
  have Cc:decide (64 < (l0.length:Int)) = false:=decide_eq_false c3
  have MZ:decide (64 < l0.length) = false:=decide_eq_false (by omega)
  clear c3
  have H':=aa.mk H
  clear H
  go_enter Try.func65,Try.ntmps65
  go_wp2
  go_loopg [12] k (fun kq v12 w'=>∃ (kz:Int),v12 = U Z kz∧aa (fK.l0 kq a1 l0 (l0.length:Int) kz = some r)∧aa (kq≤k)∧aa (Below w.heap.size w w'))
  case atStart=>exact ⟨(0),nM,H',⟨Nat.le_refl _⟩,⟨gL⟩⟩
  case round =>
   clear H'
   try clear p2
   try clear c3
   try clear Cc
   try clear MZ
   obtain ⟨kz,rfl,HA,JP,HB⟩:=hrel
   cases gk with
   |zero=>exact absurd HA.out (by simp [fK.l0])
   |succ k1 =>
    have H:=HA.out
    clear HA
    simp only [fK.l0] at H
    by_cases c4:kz < (l0.length:Int)
    ·rw [if_pos c4] at H
     have tN:decide (kz < (l0.length:Int)) = true:=decide_eq_true c4
     clear c4
     by_cases c5:0≤kz
     ·rw [if_pos c5] at H
      have DI:decide (0≤kz) = true:=decide_eq_true c5
      clear c5
      by_cases c6:kz < (l0.length:Int)
      ·rw [if_pos c6] at H
       have GX:decide (kz < (l0.length:Int)) = true:=decide_eq_true c6
       clear c6
       by_cases c7:((bJ l0 kz).f0) < 0
       ·rw [if_pos c7] at H
        have Q7:decide (((bJ l0 kz).f0) < 0) = true:=decide_eq_true c7
        clear c7
        obtain rfl:=Option.some.inj H
        have Dq:0≤(kz:Int):=of_decide_eq_true mq
        have Dr:kz < (l0.length:Int):=of_decide_eq_true mq
        obtain ⟨aa8,TY,mR,mU⟩:=kE Mh.out kz Dq Dr
        cases TY
        replace mR:=(HB.out.cell (World.block_lt_of_cell? w _ mR)).trans mR
        replace mU:=(HB.out.cell (World.block_lt_of_cell? w _ mU)).trans mU
        replace Dq:=eq_true Dq
        replace Dr:=eq_true Dr
        go_wp2_with (first|((with_reducible refine aA (N:=6) rfl ?_);refine au (by rfl) (N:=6) (by rfl) (cs:=#[U Z 0,U Z 0]) (t:=33) fG ?_;intro aa9 hg w8 hbox hb;have Jl:=aa.mk (hbox);have aba:=bS HB hg;have abb:=bS HB hg;replace HB:=cO HB hb;clear hb hbox hg;obtain ⟨zu,zw,zx,zy⟩:=iZ Jl.out))
        go_ret
        exact ⟨lW,gL⟩
       ·rw [if_neg c7] at H
        have Q7:decide (((bJ l0 kz).f0) < 0) = false:=decide_eq_false c7
        clear c7
        by_cases c10:((bJ l0 kz).f0) ≥ 9
        ·rw [if_pos c10] at H
         have Ea:decide (9≤((bJ l0 kz).f0)) = true:=decide_eq_true c10
         clear c10
         obtain rfl:=Option.some.inj H
         have Dq:0≤(kz:Int):=of_decide_eq_true mq
         have Dr:kz < (l0.length:Int):=of_decide_eq_true mq
         obtain ⟨aa8,TY,mR,mU⟩:=kE Mh.out kz Dq Dr
         cases TY
         replace mR:=(HB.out.cell (World.block_lt_of_cell? w _ mR)).trans mR
         replace mU:=(HB.out.cell (World.block_lt_of_cell? w _ mU)).trans mU
         replace Dq:=eq_true Dq
         replace Dr:=eq_true Dr
         go_wp2_with (first|((with_reducible refine aA (N:=6) rfl ?_);refine au (by rfl) (N:=6) (by rfl) (cs:=#[U Z 0,U Z 0]) (t:=33) fG ?_;intro aa9 hg w11 hbox hb;have Jl:=aa.mk (hbox);have aba:=bS HB hg;have abb:=bS HB hg;replace HB:=cO HB hb;clear hb hbox hg;obtain ⟨o6,o7,o8,o9⟩:=iZ Jl.out))
         go_ret
         exact ⟨lW,gL⟩
        ·rw [if_neg c10] at H
         have Ea:decide (9≤((bJ l0 kz).f0)) = false:=decide_eq_false c10
         clear c10
         by_cases c13:((bJ l0 kz).f1) < 0
         ·rw [if_pos c13] at H
          have ami:decide (((bJ l0 kz).f1) < 0) = true:=decide_eq_true c13
          clear c13
          obtain rfl:=Option.some.inj H
          have Dq:0≤(kz:Int):=of_decide_eq_true mq
          have Dr:kz < (l0.length:Int):=of_decide_eq_true mq
          obtain ⟨aa8,TY,mR,mU⟩:=kE Mh.out kz Dq Dr
          cases TY
          replace mR:=(HB.out.cell (World.block_lt_of_cell? w _ mR)).trans mR
          replace mU:=(HB.out.cell (World.block_lt_of_cell? w _ mU)).trans mU
          replace Dq:=eq_true Dq
          replace Dr:=eq_true Dr
          go_wp2_with (first|((with_reducible refine aA (N:=6) rfl ?_);refine au (by rfl) (N:=6) (by rfl) (cs:=#[U Z 0,U Z 0]) (t:=33) fG ?_;intro aa9 hg w14 hbox hb;have Jl:=aa.mk (hbox);have aba:=bS HB hg;have abb:=bS HB hg;replace HB:=cO HB hb;clear hb hbox hg;obtain ⟨oL,oM,oN,oO⟩:=iZ Jl.out))
          go_ret
          exact ⟨lW,gL⟩
         ·rw [if_neg c13] at H
          have ami:decide (((bJ l0 kz).f1) < 0) = false:=decide_eq_false c13
          clear c13
          by_cases c16:a1 ≥ 0
          ·rw [if_pos c16] at H
           have Eb:decide (0≤a1) = true:=decide_eq_true c16
           clear c16
           by_cases c17:((bJ l0 kz).f1) ≥ a1
           ·rw [if_pos c17] at H
            have amj:decide (a1≤((bJ l0 kz).f1)) = true:=decide_eq_true c17
            clear c17
            obtain rfl:=Option.some.inj H
            have Dq:0≤(kz:Int):=of_decide_eq_true mq
            have Dr:kz < (l0.length:Int):=of_decide_eq_true mq
            obtain ⟨aa8,TY,mR,mU⟩:=kE Mh.out kz Dq Dr
            cases TY
            replace mR:=(HB.out.cell (World.block_lt_of_cell? w _ mR)).trans mR
            replace mU:=(HB.out.cell (World.block_lt_of_cell? w _ mU)).trans mU
            replace Dq:=eq_true Dq
            replace Dr:=eq_true Dr
            go_wp2_with (first|((with_reducible refine aA (N:=6) rfl ?_);refine au (by rfl) (N:=6) (by rfl) (cs:=#[U Z 0,U Z 0]) (t:=33) fG ?_;intro aa9 hg w18 hbox hb;have Jl:=aa.mk (hbox);have aba:=bS HB hg;have abb:=bS HB hg;replace HB:=cO HB hb;clear hb hbox hg;obtain ⟨vU,vV,vW,vX⟩:=iZ Jl.out))
            go_ret
            exact ⟨lW,gL⟩
           ·rw [if_neg c17] at H
            have amj:decide (a1≤((bJ l0 kz).f1)) = false:=decide_eq_false c17
            clear c17
            have H':=aa.mk H
            clear H
            have Dq:0≤(kz:Int):=of_decide_eq_true mq
            have Dr:kz < (l0.length:Int):=of_decide_eq_true mq
            obtain ⟨aa8,TY,mR,mU⟩:=kE Mh.out kz Dq Dr
            cases TY
            replace mR:=(HB.out.cell (World.block_lt_of_cell? w _ mR)).trans mR
            replace mU:=(HB.out.cell (World.block_lt_of_cell? w _ mU)).trans mU
            replace Dq:=eq_true Dq
            replace Dr:=eq_true Dr
            go_wp2_with (first|((with_reducible refine aA (N:=6) rfl ?_);refine au (by rfl) (N:=6) (by rfl) (cs:=#[U Z 0,U Z 0]) (t:=33) fG ?_;intro aa9 hg I4 hbox hb;have Jl:=aa.mk (hbox);have aba:=bS HB hg;have abb:=bS HB hg;replace HB:=cO HB hb;clear hb hbox hg;obtain ⟨xO,xP,xQ,xR⟩:=iZ Jl.out))
            go_roundg k1
            case measure=>have:=JP.out;omega
            case rel=>exact ⟨(wrap64 (kz+1)),nM,H',⟨Mi⟩,⟨gL⟩⟩
          ·rw [if_neg c16] at H
           have Eb:decide (0≤a1) = false:=decide_eq_false c16
           clear c16
           have H':=aa.mk H
           clear H
           have Dq:0≤(kz:Int):=of_decide_eq_true mq
           have Dr:kz < (l0.length:Int):=of_decide_eq_true mq
           obtain ⟨aa8,TY,mR,mU⟩:=kE Mh.out kz Dq Dr
           cases TY
           replace mR:=(HB.out.cell (World.block_lt_of_cell? w _ mR)).trans mR
           replace mU:=(HB.out.cell (World.block_lt_of_cell? w _ mU)).trans mU
           replace Dq:=eq_true Dq
           replace Dr:=eq_true Dr
           go_wp2_with (first|((with_reducible refine aA (N:=6) rfl ?_);refine au (by rfl) (N:=6) (by rfl) (cs:=#[U Z 0,U Z 0]) (t:=33) fG ?_;intro aa9 hg w22 hbox hb;have Jl:=aa.mk (hbox);have aba:=bS HB hg;have abb:=bS HB hg;replace HB:=cO HB hb;clear hb hbox hg;obtain ⟨Ce,Cf,Cg,Ch⟩:=iZ Jl.out))
           go_roundg k1
           case measure=>have:=JP.out;omega
           case rel=>exact ⟨(wrap64 (kz+1)),nM,H',⟨Mi⟩,⟨gL⟩⟩
      ·rw [if_neg c6] at H
       exact absurd H (by simp)
     ·rw [if_neg c5] at H
      exact absurd H (by simp)
    ·rw [if_neg c4] at H
     have tN:decide (kz < (l0.length:Int)) = false:=decide_eq_false c4
     clear c4
     obtain rfl:=Option.some.inj H
     go_wp2
     go_ret
     exact ⟨lW,gL⟩
end Go.Proofs.Ytmhaiihjfgfaoaa.Pr
end
