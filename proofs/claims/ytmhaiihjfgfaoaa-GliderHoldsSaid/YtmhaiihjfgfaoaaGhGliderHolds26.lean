import Derived.Test.YtmhaiihjfgfaoaaGhGliderHolds3
import Derived.Test.YtmhaiihjfgfaoaaGhGliderHolds15
section
namespace Go.Proofs.Ytmhaiihjfgfaoaa.Gl
open Go.RowKit Go.Shelf Go.Proofs.YtmhaiihjfgfaoaaW.PrintWords Go.Proofs.YtmhaiihjfgfaoaaW.PrintLast Go.Proofs.YtmhaiihjfgfaoaaW.PrintMore Go.Proofs.Ytmhaiihjfgfaoaa.Pr Go.Proofs.YtmhaiihjfgfaoaaW.Round
set_option linter.unusedVariables false
set_option linter.unusedSimpArgs false
attribute [local go_sem] cz cB dK dL cK
def rG (s:lF) (v:qO):List vY→gz→Int→Int→List gz→List gz × Int × Int
 |[],_,_,n,out=>(out,n,0)
 |c :: l,x,t,n,out=>if mO s v x t≠0 then ([],n,mO s v x t) else rG s v l (kY s v x t c.f0 c.f1) (t+v.dive) (n+1) (out++[kY s v x t c.f0 c.f1])
def aaD (R:List gz × Int × Int) (w:World) (e:Ending) (w':World):Prop:=∃ v0_:Value,e = .returned (.tuple #[v0_,.int .i64 R.2.1,.int .i64 R.2.2])∧Kd.R PN 31 w' w.heap.size (fun _=>True) v0_ R.1∧Below w.heap.size w w'
theorem TL {l:List vY} {layers:Int} (h:wG l layers = 0):l.length≤64∧l.all (BK layers) = true:=by
 unfold wG at h
 by_cases h1:l.length > 64
 ·rw [if_pos h1] at h;cases h
 ·rw [if_neg h1] at h
  cases hb:l.all (BK layers) with
  |false=>rw [hb] at h;cases h
  |true=>exact ⟨by omega,rfl⟩
theorem Nv {layers:Int} {c:vY} (hl:1≤layers) (h:BK layers c = true):(0≤c.f0∧c.f0≤8)∧0≤c.f1∧c.f1 < layers:=by
 unfold BK at h
 simp only [Bool.and_eq_true,Bool.or_eq_true,decide_eq_true_eq,iV] at h
 omega
set_option maxRecDepth 100000 in
set_option maxHeartbeats 8000000 in
theorem ajt (b:Nat) (s:lF) (v:qO) (x:gz) (t:Int) (A:Option Addr) (c:Nat) (l:List vY) (w:World) (hT:kZ w b s v) (hS:PU s) (hV:Br v) (hx:qx x) (ht0:0≤t) (ht1:t≤1073741824) (hC:Kd.C Yv w A l.length l) (hc:l.length≤c) (hl:l.length≤64) (hall:l.all (BK s.layers) = true):
 Calls Try.prog 83 #[.pointer (some ⟨b,0,none⟩),.agg #[.int .i64 x.f0.f0,.int .i64 x.f0.f1,.int .i64 x.f1.f0,.int .i64 x.f1.f1],.int .i64 t,.slice A l.length c] w (aaD (rG s v l x t 0 []) w):=by
 have qP:=Try.underlying31
 have Rs:=Try.underlying33
 have pK:=Try.underlying27
 have BL:=Try.underlying29
 have xE:=Try.underlying25
 have apb:=Try.underlying110
 have HALL:=Lib.hid hall
 clear hall
 go_enter Try.func83,Try.ntmps83
 go_wp2_with fail
 have m5:iD (w.alloc (.cells #[.int .i64 x.f0.f0,.int .i64 x.f0.f1,.int .i64 x.f1.f0,.int .i64 x.f1.f1] 31)) (w.heap.size) #[.int .i64 x.f0.f0,.int .i64 x.f0.f1,.int .i64 x.f1.f0,.int .i64 x.f1.f1] 31:=af6
 have mB:Below w.heap.size w (w.alloc (.cells #[.int .i64 x.f0.f0,.int .i64 x.f0.f1,.int .i64 x.f1.f0,.int .i64 x.f1.f1] 31)):=(aY (Below.refl w.heap.size w) _)
 have nK:w.heap.size≤w.heap.size:=Nat.le_refl _
 generalize xV:(w.alloc (.cells #[.int .i64 x.f0.f0,.int .i64 x.f0.f1,.int .i64 x.f1.f0,.int .i64 x.f1.f1] 31)) = W1 at m5 mB ⊢
 clear xV
 generalize hg5:w.heap.size = g5 at m5 ⊢
 have hG5:w.heap.size≤g5:=by omega
 clear nK
 try clear hg5
 have Dl:w.heap.size≤W1.heap.size:=mB.size
 go_wp2
 go_loopw [2,11,18] (fun tt o i wr=>∃ (k:Nat) (v_:Value) (X:gz) (T:Int) (out:List gz),tt = .int .i64 T∧v_ = o∧i = .int .i64 k∧k≤l.length∧Hid (rG s v l x t 0 [] = rG s v (l.drop k) X T k out)∧Hid (out.length = k∧qx X∧0≤T∧T≤1073741824+(k:Int)*131072)∧iD wr g5 #[.int .i64 X.f0.f0,.int .i64 X.f0.f1,.int .i64 X.f1.f0,.int .i64 X.f1.f1] 31∧Kd.R PN 31 wr w.heap.size (fun q=>q≠g5) v_ out∧Below w.heap.size w wr) (fun _ _ i _=>l.length - (intOf i).toNat)
 case atStart=>exact ⟨0,_,x,t,[],rfl,rfl,rfl,Nat.zero_le _,Lib.hid rfl,Lib.hid ⟨rfl,hx,ht0,by omega⟩,m5,Kd.Uq _ _ _ _ _,mB⟩
 case round =>
  clear m5 mB hx ht0 ht1
  obtain ⟨k,v_,X,T,out,rfl,rfl,rfl,hk,HR,HQ,m5,HO,mB⟩:=hrel
  have arn:w.heap.size≤wr.heap.size:=mB.size
  by_cases hlt:k < l.length
  case neg =>
   obtain rfl:k = l.length:=by omega
   have HE:=HR.out
   rw [List.drop_length] at HE
   have HE2:Hid (rG s v l x t 0 [] = (out,(l.length:Int),0)):=Lib.hid HE
   clear HE HR HQ
   go_wp2
   go_ret3
   exact ⟨_,by rw [HE2.out];rfl,by rw [HE2.out];exact Kd.lv HO (fun _ _=>trivial),mB⟩
  case pos =>
   obtain ⟨ad_,e_,hx0,hx1⟩:=kT hC k (by omega) (by omega)
   cases e_
   simp only [Int.toNat_natCast] at hx0 hx1
   replace hx0:=(mB.cell (World.block_lt_of_cell? w _ hx0)).trans hx0
   replace hx1:=(mB.cell (World.block_lt_of_cell? w _ hx1)).trans hx1
   have hdr:l.drop k = dx l (k:Int) :: l.drop (k+1):=by rw [List.drop_eq_getElem_cons hlt];simp [dx,List.getD_eq_getElem?_getD,hlt]
   have hmem:dx l (k:Int) ∈ l:=List.mem_of_getElem? (i:=k) (by simp [dx,List.getD_eq_getElem?_getD,hlt])
   have hcr:=Nv hS.n.layers.1 (List.all_eq_true.1 HALL.out _ hmem)
   clear hmem
   generalize dx l (k:Int) = d at*
   have HR2:Hid (rG s v l x t 0 [] = if mO s v X T≠0 then ([],(k:Int),mO s v X T) else rG s v (l.drop (k+1)) (kY s v X T d.f0 d.f1) (T+v.dive) ((k:Int)+1) (out++[kY s v X T d.f0 d.f1])):=Lib.hid (by rw [HR.out,hdr];rfl)
   clear HR hdr
   obtain ⟨hol,hX,hT0,hT1⟩:=HQ.out
   obtain ⟨⟨hh0,Un⟩,hl0,hl1⟩:=hcr
   have hdb:=fun h=>OW (t:=T) (hd:=d.f0) (layer:=d.f1) hS hV hX h
   have hdv:=hV.dive
   have HDV:=Lib.hid hdv
   clear HQ
   have kD:=fun W (h:kZ W b s v)=>UN b s v X T d.f0 d.f1 W h hS hV hX hT0 (by omega) hh0 Un hl0 hl1
   have HQ1:Hid (out.length = k∧0≤T∧T≤1073741824+(k:Int)*131072∧(mO s v X T = 0→qx (kY s v X T d.f0 d.f1))):=Lib.hid ⟨hol,hT0,hT1,hdb⟩
   clear hol hX hT0 hT1 hh0 Un hl0 hl1 hdb hdv
   generalize kY s v X T d.f0 d.f1 = Y at*
   generalize mO s v X T = E at*
   have Ir:∀ o_,(wr.alloc o_).cell? ⟨g5,0,none⟩ = some (.int .i64 X.f0.f0):=fun o_=>(aa (ag m5 o_) 0).trans rfl
   have KS:∀ o_,(wr.alloc o_).cell? ⟨g5,1,none⟩ = some (.int .i64 X.f0.f1):=fun o_=>(aa (ag m5 o_) 1).trans rfl
   have Ru:∀ o_,(wr.alloc o_).cell? ⟨g5,2,none⟩ = some (.int .i64 X.f1.f0):=fun o_=>(aa (ag m5 o_) 2).trans rfl
   have Rv:∀ o_,(wr.alloc o_).cell? ⟨g5,3,none⟩ = some (.int .i64 X.f1.f1):=fun o_=>(aa (ag m5 o_) 3).trans rfl
   go_wp2_with fail
   clear Ir KS Ru Rv
   clear hx0 hx1
   replace HO:=Kd.pJ HO (aY (Below.refl wr.heap.size wr) (.cells #[.int .i64 d.f0,.int .i64 d.f1] 33))
   have KQ:=dV m5
   have m13:iD (wr.alloc (.cells #[.int .i64 d.f0,.int .i64 d.f1] 33)) (wr.heap.size) #[.int .i64 d.f0,.int .i64 d.f1] 33:=(by have h_:=fT wr (.cells #[.int .i64 d.f0,.int .i64 d.f1] 33);first|exact h_|(simp only [World.size_alloc] at h_;exact h_))
   replace m5:iD (wr.alloc (.cells #[.int .i64 d.f0,.int .i64 d.f1] 33)) g5 #[.int .i64 X.f0.f0,.int .i64 X.f0.f1,.int .i64 X.f1.f0,.int .i64 X.f1.f1] 31:=(ag m5 _)
   replace mB:Below w.heap.size w (wr.alloc (.cells #[.int .i64 d.f0,.int .i64 d.f1] 33)):=(aY mB _)
   have nK:w.heap.size≤wr.heap.size:=arn
   generalize xV:(wr.alloc (.cells #[.int .i64 d.f0,.int .i64 d.f1] 33)) = W2 at m5 m13 mB HO ⊢
   clear xV
   generalize aDm:wr.heap.size = g13 at m13 ⊢
   have aju:g5≠g13:=by omega
   have azJ:g13≠g5:=aju.symm
   have aJl:w.heap.size≤g13:=by omega
   clear nK KQ
   try clear aDm
   have x9:w.heap.size≤W2.heap.size:=mB.size
   have hcon:=kD W2 (hT.below mB)
   clear kD
   (with_reducible refine hcon.mono ?_)
   clear hcon
   rintro e W3 ⟨rfl,hb⟩
   replace HO:=Kd.pJ HO hb
   replace m5:=aV m5 hb
   replace m13:=aV m13 hb
   replace mB:=dY mB hb
   clear hb
   have LW:w.heap.size≤W3.heap.size:=mB.size
   by_cases hE:E = 0
   case neg =>
    have HZ:=Lib.hid (HR2.out.trans (if_pos hE))
    have hd1:(E == 0) = false:=beq_eq_false_iff_ne.2 hE
    have hd2:(E != 0) = true:=by rw [bne,hd1];rfl
    clear hE HR2 HQ1
    go_wp2
    go_ret3
    exact ⟨_,zS,by rw [HZ.out];exact Kd.Uq _ _ _ _ _,by repeat (first|exact mB|apply aY)⟩
   case pos =>
    have HR3:=Lib.hid (HR2.out.trans (if_neg (fun h=>h hE)))
    have HQ2:Hid (out.length = k∧0≤T∧T≤1073741824+(k:Int)*131072∧qx Y):=Lib.hid ⟨HQ1.out.1,HQ1.out.2.1,HQ1.out.2.2.1,HQ1.out.2.2.2 hE⟩
    clear HR2 HQ1
    subst hE
    have aro:=dV m5
    have hol:Hid ((out.length+1)*32≤140737488355328):=Lib.hid (by have:=HQ2.out.1;omega)
    have hne5:some g5≠v_.ownBlock:=fun h=>HO.1 g5 h.symm rfl
    have alC:some W3.heap.size≠v_.ownBlock:=fun h=>by have:=Kd.abg HO _ h.symm;omega
    go_wp2_with (first|((with_reducible refine CQ (b:=.append) (xs:=#[.tmp 35,.tmp 37]) rfl ?_);(try (refine pF (by rfl) ?_;dsimp only));at_builtin;go_loud (refine Kd.OD PN (w0:=w) w.heap.size rfl (.tmp 35) (.tmp 37) 50 31 (.agg #[.int .i64 0,.int .i64 0,.int .i64 0,.int .i64 0]) 32 rfl Try.underlying50 aeG rfl (by decide) (by decide) v_ out Y [.int .i64 Y.f0.f0,.int .i64 Y.f0.f1,.int .i64 Y.f1.f0,.int .i64 Y.f1.f1] (fun q=>q≠g5) (fun _=>False) rfl (by first|rfl|(go_simp;done)|(go_simp;rfl)) ?aP (fun _ hk=>hk.elim) ?aF ?aO ?aB ?aS ?aL ?_);(case aP=>exact aap _ _ _ Y);(case aF=>exact (fun q hq=>by have h_:=dV m5;simp only [World.size_alloc] at hq;omega));(case aO=>exact Kd.pJ HO (aY (Below.refl _ _) _));(case aB=>exact aY mB _);(case aS=>(have h_:=mB.size;simp only [World.size_alloc];omega));(case aL=>exact hol.out);intro v1 w1 HO1 hB1 hgr hat))
    replace m5:=pI (ag m5 _) hgr hne5
    have m14:=pI (fT W3 (.cells #[.int .i64 Y.f0.f0,.int .i64 Y.f0.f1,.int .i64 Y.f1.f0,.int .i64 Y.f1.f1] 31)) hgr alC
    have IA:g5≠W3.heap.size:=by have h_:=aro;omega
    clear aro
    clear hgr hat HO hne5 alC m13 mB hol
    generalize ame:W3.heap.size = g14 at m14 IA ⊢
    have mf:=IA.symm
    clear ame
    have mB:=hB1
    clear hB1
    obtain ⟨A7,c7,A8,c8,mT,_⟩:=hT.below mB
    replace m5:=ah m5
    replace m14:=ah m14
    replace mT:=ah mT
    replace mB:=bW mB
    replace HO1:=Kd.pJ HO1 (bW (Below.refl w1.heap.size w1))
    have hbn:b≠g5:=by have h_:=hT;obtain ⟨_,_,_,_,h_,_⟩:=h_;have h2_:=(Array.getElem?_eq_some_iff.1 h_).1;omega
    refine jI (n:=10) (S:=fun w'=>w'.cell? ⟨g14,0,none⟩ = some (.int .i64 Y.f0.f0)∧w'.cell? ⟨g14,1,none⟩ = some (.int .i64 Y.f0.f1)∧w'.cell? ⟨g14,2,none⟩ = some (.int .i64 Y.f1.f0)∧w'.cell? ⟨g14,3,none⟩ = some (.int .i64 Y.f1.f1)∧w'.cell? ⟨b,10,none⟩ = some (.int .i64 v.dive)) (ds:=[]) #[false,false,false,false,false,false,false,false,false,false] aR rfl rfl ⟨((aa m14 0).trans rfl),((aa m14 1).trans rfl),((aa m14 2).trans rfl),((aa m14 3).trans rfl),((aa mT 10).trans rfl)⟩ (fun hHeld=>?_)
    generalize hWd:World.drew _ = Wx at*
    clear hWd
    refine dJ (i:=1) (N:=some 40) aR ?_
    refine dJ (i:=2) (N:=some 41) aR ?_
    refine dJ (i:=3) (N:=some 42) aR ?_
    refine dJ (i:=4) (N:=some 43) aR ?_
    refine dJ (i:=5) (N:=some 44) aR ?_
    refine ja (i:=0) (N:=some 39) aR hHeld ?_
    refine ja (i:=6) (N:=some 45) aR hHeld ?_
    refine dJ (i:=7) (N:=some 46) aR ?_
    refine jq (i:=8) (N:=none) #[true,true,true,true,true,true,true,true,true,false] rfl rfl aR (by decide) (fun K hK=>?_)
    have UE:=aX m5 0
    have UF:=aX m5 1
    have afY:=aX m5 2
    have afZ:=aX m5 3
    have UG:=(aa m5 0).trans rfl
    have UH:=(aa m5 1).trans rfl
    have af0:=(aa m5 2).trans rfl
    have af1:=(aa m5 3).trans rfl
    refine yc (w1:=?_) (by rfl) rfl ?_ ?_
    rotate_left
    ·go_simp
     rfl
    refine hK.out _ _ ⟨((aa (aM (p:=⟨g5,3,none⟩) (aM (p:=⟨g5,2,none⟩) (aM (p:=⟨g5,1,none⟩) (aM (p:=⟨g5,0,none⟩) m14 mf _) mf _) mf _) mf _) 0).trans rfl),((aa (aM (p:=⟨g5,3,none⟩) (aM (p:=⟨g5,2,none⟩) (aM (p:=⟨g5,1,none⟩) (aM (p:=⟨g5,0,none⟩) m14 mf _) mf _) mf _) mf _) 1).trans rfl),((aa (aM (p:=⟨g5,3,none⟩) (aM (p:=⟨g5,2,none⟩) (aM (p:=⟨g5,1,none⟩) (aM (p:=⟨g5,0,none⟩) m14 mf _) mf _) mf _) mf _) 2).trans rfl),((aa (aM (p:=⟨g5,3,none⟩) (aM (p:=⟨g5,2,none⟩) (aM (p:=⟨g5,1,none⟩) (aM (p:=⟨g5,0,none⟩) m14 mf _) mf _) mf _) mf _) 3).trans rfl),((aa (aM (p:=⟨g5,3,none⟩) (aM (p:=⟨g5,2,none⟩) (aM (p:=⟨g5,1,none⟩) (aM (p:=⟨g5,0,none⟩) mT hbn _) hbn _) hbn _) hbn _) 10).trans rfl)⟩ (fun hHeld=>?_)
    clear hK K
    refine dJ (i:=9) (N:=some 2) aR ?_
    refine lC aR ?_
    go_wp2
    go_roundw
    case rel =>
     have hq:=HQ2.out
     have hv:=HDV.out
     have hwr:wrap64 (T+v.dive) = T+v.dive:=by unfold wrap64;omega
     exact ⟨k+1,v1,Y,T+v.dive,out++[Y],by rw [hwr],rfl,by simp,by omega,Lib.hid HR3.out,Lib.hid ⟨by rw [List.length_append];simp;omega,hq.2.2.2,by omega,by omega⟩,(aI (aI (aI (aI m5 0 (.int .i64 Y.f0.f0) rfl) 1 (.int .i64 Y.f0.f1) rfl) 2 (.int .i64 Y.f1.f0) rfl) 3 (.int .i64 Y.f1.f1) rfl),(Kd.eG (p:=⟨g5,3,none⟩) (Kd.eG (p:=⟨g5,2,none⟩) (Kd.eG (p:=⟨g5,1,none⟩) (Kd.eG (p:=⟨g5,0,none⟩) HO1 (fun _ hk=>hk) _) (fun _ hk=>hk) _) (fun _ hk=>hk) _) (fun _ hk=>hk) _),(Below.setCell (p:=⟨g5,3,none⟩) (Below.setCell (p:=⟨g5,2,none⟩) (Below.setCell (p:=⟨g5,1,none⟩) (Below.setCell (p:=⟨g5,0,none⟩) mB hG5 _) hG5 _) hG5 _) hG5 _)⟩
    case measure=>simp [intOf];omega
def VC (s:lF) (v:qO) (x:gz) (t:Int) (l:List vY):List gz × Int × Int:=if pq s v x t≠0 then ([],0,pq s v x t) else if wG l s.layers≠0 then ([],0,wG l s.layers) else rG s v l x t 0 []
set_option maxRecDepth 100000 in
set_option maxHeartbeats 8000000 in
theorem ajv (s:lF) (v:qO) (x:gz) (t:Int) (A:Option Addr) (c:Nat) (l:List vY) (A7 A8:Option Addr) (c7 c8:Nat) (w:World) (h7:s.shores.length≤c7) (hC7:Kd.C Kd.bool w A7 s.shores.length s.shores) (h8:s.currents.length≤c8) (WJ:Kd.C CY w A8 s.currents.length s.currents) (hC:Kd.C Yv w A l.length l) (hc:l.length≤c):
 Calls Try.prog 30 #[.agg #[.int .i64 s.nx,.int .i64 s.ny,.int .i64 s.cell,.int .i64 s.slot,.int .i64 s.slots,.int .i64 s.layers,.int .i64 s.most,.slice A7 s.shores.length c7,.slice A8 s.currents.length c8],.agg #[.int .i64 v.speed,.int .i64 v.dive,.int .i64 v.use.f0,.int .i64 v.use.f1,.int .i64 v.drift.f0,.int .i64 v.drift.f1,.int .i64 v.reserve],.agg #[.int .i64 x.f0.f0,.int .i64 x.f0.f1,.int .i64 x.f1.f0,.int .i64 x.f1.f1],.int .i64 t,.slice A l.length c] w (aaD (VC s v x t l) w):=by
 have xE:=Try.underlying25
 have BL:=Try.underlying29
 have qP:=Try.underlying31
 have Rs:=Try.underlying33
 have pK:=Try.underlying27
 have HX:Hid (VC s v x t l = if pq s v x t≠0 then ([],0,pq s v x t) else if wG l s.layers≠0 then ([],0,wG l s.layers) else rG s v l x t 0 []):=Lib.hid rfl
 go_enter Try.func30,Try.ntmps30
 go_wp2_with fail
 have m5:iD (((w.alloc (.cells #[.int .i64 s.nx,.int .i64 s.ny,.int .i64 s.cell,.int .i64 s.slot,.int .i64 s.slots,.int .i64 s.layers,.int .i64 s.most,.slice A7 s.shores.length c7,.slice A8 s.currents.length c8] 25)).alloc (.cells #[.int .i64 v.speed,.int .i64 v.dive,.int .i64 v.use.f0,.int .i64 v.use.f1,.int .i64 v.drift.f0,.int .i64 v.drift.f1,.int .i64 v.reserve] 29)).alloc (.cells #[.int .i64 x.f0.f0,.int .i64 x.f0.f1,.int .i64 x.f1.f0,.int .i64 x.f1.f1] 31)) (w.heap.size) #[.int .i64 s.nx,.int .i64 s.ny,.int .i64 s.cell,.int .i64 s.slot,.int .i64 s.slots,.int .i64 s.layers,.int .i64 s.most,.slice A7 s.shores.length c7,.slice A8 s.currents.length c8] 25:=(ag (ag adI _) _)
 have m6:iD (((w.alloc (.cells #[.int .i64 s.nx,.int .i64 s.ny,.int .i64 s.cell,.int .i64 s.slot,.int .i64 s.slots,.int .i64 s.layers,.int .i64 s.most,.slice A7 s.shores.length c7,.slice A8 s.currents.length c8] 25)).alloc (.cells #[.int .i64 v.speed,.int .i64 v.dive,.int .i64 v.use.f0,.int .i64 v.use.f1,.int .i64 v.drift.f0,.int .i64 v.drift.f1,.int .i64 v.reserve] 29)).alloc (.cells #[.int .i64 x.f0.f0,.int .i64 x.f0.f1,.int .i64 x.f1.f0,.int .i64 x.f1.f1] 31)) (w.heap.size+1) #[.int .i64 v.speed,.int .i64 v.dive,.int .i64 v.use.f0,.int .i64 v.use.f1,.int .i64 v.drift.f0,.int .i64 v.drift.f1,.int .i64 v.reserve] 29:=(ag agk _)
 have m7:iD (((w.alloc (.cells #[.int .i64 s.nx,.int .i64 s.ny,.int .i64 s.cell,.int .i64 s.slot,.int .i64 s.slots,.int .i64 s.layers,.int .i64 s.most,.slice A7 s.shores.length c7,.slice A8 s.currents.length c8] 25)).alloc (.cells #[.int .i64 v.speed,.int .i64 v.dive,.int .i64 v.use.f0,.int .i64 v.use.f1,.int .i64 v.drift.f0,.int .i64 v.drift.f1,.int .i64 v.reserve] 29)).alloc (.cells #[.int .i64 x.f0.f0,.int .i64 x.f0.f1,.int .i64 x.f1.f0,.int .i64 x.f1.f1] 31)) (w.heap.size+1+1) #[.int .i64 x.f0.f0,.int .i64 x.f0.f1,.int .i64 x.f1.f0,.int .i64 x.f1.f1] 31:=amC
 have mB:Below w.heap.size w (((w.alloc (.cells #[.int .i64 s.nx,.int .i64 s.ny,.int .i64 s.cell,.int .i64 s.slot,.int .i64 s.slots,.int .i64 s.layers,.int .i64 s.most,.slice A7 s.shores.length c7,.slice A8 s.currents.length c8] 25)).alloc (.cells #[.int .i64 v.speed,.int .i64 v.dive,.int .i64 v.use.f0,.int .i64 v.use.f1,.int .i64 v.drift.f0,.int .i64 v.drift.f1,.int .i64 v.reserve] 29)).alloc (.cells #[.int .i64 x.f0.f0,.int .i64 x.f0.f1,.int .i64 x.f1.f0,.int .i64 x.f1.f1] 31)):=(aY (aY (aY (Below.refl w.heap.size w) _) _) _)
 have nK:w.heap.size≤w.heap.size:=Nat.le_refl _
 generalize xV:(((w.alloc (.cells #[.int .i64 s.nx,.int .i64 s.ny,.int .i64 s.cell,.int .i64 s.slot,.int .i64 s.slots,.int .i64 s.layers,.int .i64 s.most,.slice A7 s.shores.length c7,.slice A8 s.currents.length c8] 25)).alloc (.cells #[.int .i64 v.speed,.int .i64 v.dive,.int .i64 v.use.f0,.int .i64 v.use.f1,.int .i64 v.drift.f0,.int .i64 v.drift.f1,.int .i64 v.reserve] 29)).alloc (.cells #[.int .i64 x.f0.f0,.int .i64 x.f0.f1,.int .i64 x.f1.f0,.int .i64 x.f1.f1] 31)) = W1 at m5 m6 m7 mB ⊢
 clear xV
 generalize hg5:w.heap.size = g5 at m5 m6 m7 ⊢
 have hG5:w.heap.size≤g5:=by omega
 generalize hg6:g5+1 = g6 at m6 m7 ⊢
 have Dk:g5≠g6:=by omega
 have Rf:g6≠g5:=Dk.symm
 have Uw:w.heap.size≤g6:=by omega
 generalize hg7:g6+1 = g7 at m7 ⊢
 have GN:g5≠g7:=by omega
 have OU:g6≠g7:=by omega
 have WO:g7≠g5:=GN.symm
 have adv:g7≠g6:=OU.symm
 have hG7:w.heap.size≤g7:=by omega
 clear nK
 try clear hg7
 try clear hg6
 try clear hg5
 have Dl:w.heap.size≤W1.heap.size:=mB.size
 have hbg:pq s v x t = if nV s v≠0 then nV s v else qm x t:=rfl
 have HBG:=Lib.hid hbg
 clear hbg
 obtain ⟨Ir,KS,Ru,Rv,adK,adL,adM,adN,adO⟩:=xG m5
 obtain ⟨Rk,Rl,Rm,Rn,aDo,aDp,aDq⟩:=Mk m6
 obtain ⟨WT,WU,adP,adQ⟩:=rV m7
 go_wp2_with fail
 clear Ir KS Ru Rv adK adL adM adN adO Rk Rl Rm Rn aDo aDp aDq WT WU adP adQ
 have hcon:=QB s v x t A7 A8 c7 c8 W1 h7 (Kd.bn hC7 mB) h8 (Kd.bn WJ mB)
 (with_reducible refine hcon.mono ?_)
 clear hcon
 rintro e W2 ⟨ptr,rfl,hb,hpt⟩
 replace m5:=aV m5 hb
 replace m6:=aV m6 hb
 replace m7:=aV m7 hb
 replace mB:=dY mB hb
 clear hb
 have x9:w.heap.size≤W2.heap.size:=mB.size
 generalize hE_:pq s v x t = E0 at*
 have HE0:=Lib.hid hE_
 clear hE_
 by_cases h0:E0 = 0
 case neg =>
  have HZ:=Lib.hid (HX.out.trans (if_pos h0))
  have hd1:(E0 == 0) = false:=beq_eq_false_iff_ne.2 h0
  have hd2:(E0 != 0) = true:=by rw [bne,hd1];rfl
  clear h0 hpt HX
  go_wp2
  go_ret3
  exact ⟨_,zS,by rw [HZ.out];exact Kd.Uq _ _ _ _ _,mB⟩
 case pos =>
  have HX2:=Lib.hid (HX.out.trans (if_neg (fun h=>h h0)))
  clear HX
  have hb0:=HBG.out.symm.trans h0
  obtain ⟨ht0,hp0⟩:=Dw hb0
  obtain ⟨hbx,amG,apn⟩:=IP hp0
  obtain ⟨hSV,hVN⟩:=IM ht0
  rcases hpt with ⟨_,g,rfl,hg,hT⟩|⟨hbad,_⟩
  case inr=>exact absurd ht0 hbad
  case inl =>
   subst h0
   clear hb0 ht0 hp0 HBG
   obtain ⟨Ir,KS,Ru,Rv,adK,adL,adM,adN,adO⟩:=xG m5
   go_wp2_with fail
   clear Ir KS Ru Rv adK adL adM adN adO
   have hcon:=Yw A c l s.layers W2 (Kd.bn hC mB) hc
   (with_reducible refine hcon.mono ?_)
   clear hcon
   rintro e W4 ⟨rfl,hb⟩
   replace hT:=hT.below hb
   replace m5:=aV m5 hb
   replace m6:=aV m6 hb
   replace m7:=aV m7 hb
   replace mB:=dY mB hb
   clear hb
   have UJ:w.heap.size≤W4.heap.size:=mB.size
   have hc1:=fun h=>TL (l:=l) (layers:=s.layers) h
   generalize wG l s.layers = E1 at*
   by_cases h1:E1 = 0
   case neg =>
    have HZ:=Lib.hid (HX2.out.trans (if_pos h1))
    have hd1:(E1 == 0) = false:=beq_eq_false_iff_ne.2 h1
    have hd2:(E1 != 0) = true:=by rw [bne,hd1];rfl
    clear h1 hc1 HX2
    go_wp2
    go_ret3
    exact ⟨_,zS,by rw [HZ.out];exact Kd.Uq _ _ _ _ _,mB⟩
   case pos =>
    obtain ⟨ajw,hall⟩:=hc1 h1
    have HX3:=Lib.hid (HX2.out.trans (if_neg (fun h=>h h1)))
    clear HX2 hc1
    subst h1
    obtain ⟨WT,WU,adP,adQ⟩:=rV m7
    go_wp2_with fail
    clear WT WU adP adQ
    have hcon:=ajt g s v x t A c l W4 hT hSV hVN hbx amG apn (Kd.bn hC mB) hc ajw hall
    (with_reducible refine hcon.mono ?_)
    clear hcon
    rintro e W5 ⟨v0_,rfl,HR,hb⟩
    generalize rG s v l x t 0 [] = R at*
    go_wp2
    go_ret3
    exact ⟨_,by rw [HX3.out];rfl,by rw [HX3.out];exact Kd.lH HR mB.size,dY mB hb⟩
end Go.Proofs.Ytmhaiihjfgfaoaa.Gl
end
section
namespace Go.Proofs.Ytmhaiihjfgfaoaa.Pr
open Go.RowKit Go.Proofs.YtmhaiihjfgfaoaaW.PrintWords Go.Proofs.YtmhaiihjfgfaoaaW.PrintLast Go.Proofs.YtmhaiihjfgfaoaaW.PrintMore Go.Proofs.Ytmhaiihjfgfaoaa.Gl
set_option linter.unusedVariables false
def qU.f (aj:Int) (ak:Int) (ax:Int) (ay:Int) (aJ:Int) (aC:Int) (aG:Int) (aN:List Bool) (av:List (nU)) (aU:Int) (aQ:Int) (aZ:Int) (bf:Int) (bE:Int) (bF:Int) (bG:Int) (bP:Int) (bQ:Int) (bR:Int) (bS:Int) (a3:Int) (l4:List (vY)):Option ((List (gz)) × Int × Int):=some (VC ⟨aj,ak,ax,ay,aJ,aC,aG,aN,av⟩ ⟨aU,aQ,⟨aZ,bf⟩,⟨bE,bF⟩,bG⟩ ⟨⟨bP,bQ⟩,⟨bR,bS⟩⟩ a3 l4)
theorem qU.calls (aj:Int) (ak:Int) (ax:Int) (ay:Int) (aJ:Int) (aC:Int) (aG:Int) (dH:Option Addr) (dD:Nat) (aN:List Bool) (dG:Option Addr) (dE:Nat) (av:List (nU)) (aU:Int) (aQ:Int) (aZ:Int) (bf:Int) (bE:Int) (bF:Int) (bG:Int) (bP:Int) (bQ:Int) (bR:Int) (bS:Int) (a3:Int) (A4:Option Addr) (c4:Nat) (l4:List (vY)) (r1:List (gz)) (r2:Int) (r3:Int) (w:World) (iW:Kd.C Kd.bool w dH aN.length aN) (iX:aN.length≤dD) (iY:Kd.C CY w dG av.length av) (iZ:av.length≤dE) (hr4:Kd.C Yv w A4 l4.length l4) (hc4:l4.length≤c4) (h:qU.f aj ak ax ay aJ aC aG aN av aU aQ aZ bf bE bF bG bP bQ bR bS a3 l4 = some (r1,r2,r3)):
 Calls Try.prog 30 #[.agg #[.int .i64 aj,.int .i64 ak,.int .i64 ax,.int .i64 ay,.int .i64 aJ,.int .i64 aC,.int .i64 aG,.slice dH aN.length dD,.slice dG av.length dE],.agg #[.int .i64 aU,.int .i64 aQ,.int .i64 aZ,.int .i64 bf,.int .i64 bE,.int .i64 bF,.int .i64 bG],.agg #[.int .i64 bP,.int .i64 bQ,.int .i64 bR,.int .i64 bS],.int .i64 a3,.slice A4 l4.length c4] w fun e w'=>∃ v0_:Value,e = .returned (.tuple #[v0_,.int .i64 r2,.int .i64 r3])∧Kd.R PN 31 w' w.heap.size (fun _=>True) v0_ r1∧Below w.heap.size w w':=by
 have e_:=Option.some.inj h
 have q_:=ajv ⟨aj,ak,ax,ay,aJ,aC,aG,aN,av⟩ ⟨aU,aQ,⟨aZ,bf⟩,⟨bE,bF⟩,bG⟩ ⟨⟨bP,bQ⟩,⟨bR,bS⟩⟩ a3 A4 c4 l4 dH dG dD dE w iX iW iZ iY hr4 hc4
 rw [e_] at q_
 exact q_
end Go.Proofs.Ytmhaiihjfgfaoaa.Pr
end
