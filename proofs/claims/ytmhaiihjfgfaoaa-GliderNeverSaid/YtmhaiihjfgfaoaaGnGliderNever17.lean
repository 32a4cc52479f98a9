import Derived.Test.YtmhaiihjfgfaoaaGnGliderNever3
import Derived.Test.YtmhaiihjfgfaoaaGnGliderNever9
import Derived.Test.YtmhaiihjfgfaoaaGnGliderNever15
set_option linter.unusedSimpArgs false
set_option linter.unusedVariables false
open Go.Value renaming int → Z
open Go.IntKind renaming i64 → ab
open Bool renaming true → ac, false → al
section
namespace Go.Proofs.Ytmhaiihjfgfaoaa.Gl
open Go.RowKit Go.Shelf Go.Proofs.YtmhaiihjfgfaoaaW.PrintWords Go.Proofs.YtmhaiihjfgfaoaaW.PrintLast Go.Proofs.YtmhaiihjfgfaoaaW.PrintMore Go.Proofs.Ytmhaiihjfgfaoaa.Pr Go.Proofs.YtmhaiihjfgfaoaaW.Round
set_option linter.unusedVariables false
set_option linter.unusedSimpArgs false
attribute [local go_sem] dw dx dM dN dz
attribute [local go_sem] Oper.semAt_some
def abD (n:Nat) (h:Nat):List eQ:=(List.range n).map fun j:Nat=>(⟨(h:Int),(j:Int)⟩:eQ)
def Qd (n m:Nat):List eQ:=(List.range m).flatMap fun r:Nat=>abD n r
def yE (n q j:Nat):List eQ:=Qd n q++abD j q
theorem Kh (n q:Nat):yE n q 0 = Qd n q:=by unfold yE abD;simp
theorem FB (n q j:Nat):yE n q (j+1) = yE n q j++[(⟨(q:Int),(j:Int)⟩:eQ)]:=by
 unfold yE abD
 rw [List.range_succ,List.map_append,List.map_singleton,List.append_assoc]
theorem Ki (n q:Nat):Qd n (q+1) = yE n q n:=by
 unfold yE Qd
 rw [List.range_succ,List.flatMap_append,List.flatMap_singleton]
theorem YM (n:Nat):∀ (d q:Nat),Qd n q <+:Qd n (q+d)
 |0,q=>List.prefix_refl _
 |d+1,q=>by
  refine (YM n d q).trans ?_
  rw [show q+(d+1) = (q+d)+1 by omega,Ki]
  exact List.prefix_append _ _
theorem Sq {n m q j:Nat} (hq:q < m) (hj:j≤n):yE n q j <+:Qd n m:=by
 have h1:yE n q j <+:yE n q n:=by
  unfold yE
  refine (List.prefix_append_right_inj _).2 ?_
  unfold abD
  refine List.IsPrefix.map _ ?_
  rw [show n = j+(n - j) by omega,List.range_add]
  exact List.prefix_append _ _
 rw [← Ki] at h1
 have h2:=YM n (m - (q+1)) (q+1)
 rw [show q+1+(m - (q+1)) = m by omega] at h2
 exact h1.trans h2
abbrev RP (s:fT):={ c:eQ // (0≤c.f0∧c.f0≤8)∧0≤c.f1∧c.f1 < s.layers }
def oP (s:fT):List eQ:=Qd s.layers.toNat 9
def ahm (s:fT) (xs:List (RP s)):Prop:=xs.map Subtype.val = oP s
def akV (s:fT) (xs:List (RP s)):Prop:=xs.map Subtype.val <+:oP s
set_option maxHeartbeats 1000000 in
theorem Cw (b:Nat) (w:World):Calls Try.prog 100 #[.pointer (some ⟨b,0,none⟩)] w fun e w'=>e = .returned (.func (.func 129) #[] #[.pointer (some ⟨w.heap.size,0,none⟩)])∧w' = w.alloc (.cells #[.pointer (some ⟨b,0,none⟩)] 104):=by
 go_enter Try.func100,Try.ntmps100
 go_wp2
 go_ret
 exact ⟨rfl,rfl⟩
def aCd (w0:World) (bp b:Nat) (W:World):Prop:=Below w0.heap.size w0 W∧aZ W bp #[.pointer (some ⟨b,0,none⟩)] 104
set_option maxRecDepth 100000 in
set_option maxHeartbeats 4000000 in
theorem Cx (n:Nat) (hn:1≤n) (l bp:Nat) (b:Nat) (s:fT) (v:iw) (En:World→Prop) (hEn:∀ W,En W→dZ W b s v∧aZ W bp #[.pointer (some ⟨b,0,none⟩)] 104) (hS:Fg s) (Kp:World→World→Prop) (hKp:∀ A B,Kp A B→En A→En B) (J Jx:List (RP s)→World→Prop)
 (hY:∀ pre c W,J pre W→pre.length < (oP s).length→YieldAt Fence.wide (n - 1) Try.prog l #[.agg #[Z ab c.1.f0,Z ab c.1.f1]] W fun e W' =>
  (e = .returned (.bool true)∧J (pre++[c]) W'∧Kp W W')∨(e = .returned (.bool false)∧Jx (pre++[c]) W'))
 (W:World) (hE:En W) (h0:J [] W):
 CallsIn Fence.wide n Try.prog 129 #[.func (.yield l) #[] #[],.pointer (some ⟨bp,0,none⟩)] W fun e W'=>(∃ v,e = .returned v)∧
  ((∃ xs,ahm s xs∧J xs W')∨(∃ pre,akV s pre∧Jx pre W')):=by
 have F5:=Try.underlying33
 have hla:=hS.layers
 have HAll:Hid (oP s = Qd s.layers.toNat 9):=Lib.hid rfl
 refine callsIn_of_wp Try.func129 rfl trivial ?_ rfl
 simp only [Try.ntmps129,List.size_toArray,List.length_cons,List.length_nil,Nat.reduceAdd,Nat.reduceSub,Array.replicate_succ,Array.replicate_zero,List.push_toArray,List.append_toArray,List.nil_append,List.cons_append]
 gi_wp2
 gi_loopw [5] (fun i wr=>∃ (q:Nat) (pre:List (RP s)),q≤9∧i = Z ab (q:Int)∧Hid (pre.map Subtype.val = yE s.layers.toNat q 0)∧En wr∧J pre wr) (fun i _=>(9 - intOf i).toNat)
 case atStart=>exact ⟨0,[],Nat.zero_le _,rfl,Lib.hid (by rw [Kh];rfl),hE,h0⟩
 case round =>
  clear hE h0
  obtain ⟨q,pre,hq,rfl,HP,hE,hJs⟩:=hrel
  obtain ⟨⟨A7,c7,A8,c8,mT,_⟩,mP⟩:=hEn _ hE
  have cP:=(ae mP 0).trans rfl
  have cT:=(ae mT 5).trans rfl
  clear mT mP
  by_cases hlt:(q:Int) < 9
  ·gi_wp2
   clear cP cT
   gi_loopw [13] (fun i wr2=>∃ (j:Nat) (Kj:List (RP s)),j≤s.layers.toNat∧i = Z ab (j:Int)∧Hid (Kj.map Subtype.val = yE s.layers.toNat q j)∧En wr2∧J Kj wr2) (fun i _=>(s.layers - intOf i).toNat)
   case atStart=>exact ⟨0,pre,Nat.zero_le _,rfl,HP,hE,hJs⟩
   case round =>
    clear hE hJs
    obtain ⟨j,Kj,hj,rfl,HQ,hE,hJ2⟩:=hrel
    by_cases hjk:(j:Int) < s.layers
    ·have hlen:Kj.length < (oP s).length:=by
      have h1:=Sq (n:=s.layers.toNat) (m:=9) (show q < 9 by omega) (show j+1≤s.layers.toNat by omega)
      have h2:=h1.length_le
      rw [FB,← HQ.out,← HAll.out] at h2
      simp at h2
      omega
     obtain ⟨fn,tmps,assign,body,hy,hR⟩:=hY Kj ⟨⟨(q:Int),(j:Int)⟩,⟨by dsimp only;omega,by dsimp only;omega⟩,by dsimp only;omega,hjk⟩ _ hJ2 hlen
     dsimp only at hy
     gi_wp2
     refine hR.mono ?_
     rintro e W3 (⟨rfl,hJ3,hk3⟩|⟨rfl,hJx3⟩)
     ·have hE3:=hKp _ _ hk3 hE
      clear hk3 hE
      gi_wp2
      go_roundw
      case rel=>exact ⟨j+1,_,by omega,by simp,Lib.hid (by rw [List.map_append,HQ.out,FB];rfl),hE3,hJ3⟩
      case measure=>simp [intOf];omega
     ·gi_wp2
      refine bodyPost_ret (results_none rfl _ _ _) rfl ?_
      refine ⟨⟨_,rfl⟩,.inr ⟨_,?_,hJx3⟩⟩
      show List.map Subtype.val _ <+:_
      rw [List.map_append,HQ.out,List.map_singleton,← FB,HAll.out]
      exact Sq (by omega) (by omega)
    ·obtain rfl:j = s.layers.toNat:=by omega
     gi_wp2
     go_roundw
     case rel=>exact ⟨q+1,Kj,by omega,by simp,Lib.hid (by rw [HQ.out,Kh,← Ki]),hE,hJ2⟩
     case measure=>simp [intOf];omega
  ·obtain rfl:q = 9:=by omega
   gi_wp2
   go_end0
   exact ⟨⟨_,rfl⟩,.inl ⟨pre,by unfold ahm;rw [HAll.out,HP.out,Kh],hJs⟩⟩
end Go.Proofs.Ytmhaiihjfgfaoaa.Gl
end
section
namespace Go.Proofs.Ytmhaiihjfgfaoaa.Gl
open Go.RowKit Go.Shelf Go.Proofs.YtmhaiihjfgfaoaaW.PrintWords Go.Proofs.YtmhaiihjfgfaoaaW.PrintLast Go.Proofs.YtmhaiihjfgfaoaaW.PrintMore Go.Proofs.Ytmhaiihjfgfaoaa.Pr Go.Proofs.YtmhaiihjfgfaoaaW.Round
set_option linter.unusedVariables false
set_option linter.unusedSimpArgs false
attribute [local go_sem] dw dx dM dN dz
def nW (s:fT) (v:iw):List eQ→cZ→Int→Int→List cZ→List cZ × Int × Int
 |[],_,_,n,out=>(out,n,0)
 |c :: l,x,t,n,out=>if jv s v x t≠0 then ([],n,jv s v x t) else nW s v l (iX s v x t c.f0 c.f1) (t+v.dive) (n+1) (out++[iX s v x t c.f0 c.f1])
def akW (R:List cZ × Int × Int) (w:World) (e:Ending) (w':World):Prop:=∃ Ur:Value,e = .returned (.tuple #[Ur,Z ab R.2.1,Z ab R.2.2])∧Kd.R Qe 31 w' w.heap.size (fun _=>True) Ur R.1∧Below w.heap.size w w'
theorem adz {l:List eQ} {layers:Int} (h:vG l layers = 0):l.length≤64∧l.all (Ck layers) = true:=by
 unfold vG at h
 by_cases h1:l.length > 64
 ·rw [if_pos h1] at h;cases h
 ·rw [if_neg h1] at h
  cases hb:l.all (Ck layers) with
  |false=>rw [hb] at h;cases h
  |true=>exact ⟨by omega,rfl⟩
theorem adA {layers:Int} {c:eQ} (hl:1≤layers) (h:Ck layers c = true):(0≤c.f0∧c.f0≤8)∧0≤c.f1∧c.f1 < layers:=by
 unfold Ck at h
 simp only [Bool.and_eq_true,Bool.or_eq_true,decide_eq_true_eq,dR] at h
 omega
set_option maxRecDepth 100000 in
set_option maxHeartbeats 8000000 in
theorem akX (b:Nat) (s:fT) (v:iw) (x:cZ) (t:Int) (A:Option Addr) (c:Nat) (l:List eQ) (w:World) (hT:dZ w b s v) (hS:BQ s) (hV:uF v) (hx:gp x) (ht0:0≤t) (ht1:t≤1073741824) (hC:Kd.C TP w A l.length l) (hc:l.length≤c) (hl:l.length≤64) (hall:l.all (Ck s.layers) = true):
 Calls Try.prog 83 #[.pointer (some ⟨b,0,none⟩),.agg #[Z ab x.f0.f0,Z ab x.f0.f1,Z ab x.f1.f0,Z ab x.f1.f1],Z ab t,.slice A l.length c] w (akW (nW s v l x t 0 []) w):=by
 have pG:=Try.underlying31
 have F5:=Try.underlying33
 have mE:=Try.underlying27
 have xX:=Try.underlying29
 have Cn:=Try.underlying25
 have anG:=Try.underlying110
 have HALL:=Lib.hid hall
 clear hall
 go_enter Try.func83,Try.ntmps83
 go_wp2_with fail
 have m5:aZ (w.alloc (.cells #[Z ab x.f0.f0,Z ab x.f0.f1,Z ab x.f1.f0,Z ab x.f1.f1] 31)) (w.heap.size) #[Z ab x.f0.f0,Z ab x.f0.f1,Z ab x.f1.f0,Z ab x.f1.f1] 31:=afR
 have mB:Below w.heap.size w (w.alloc (.cells #[Z ab x.f0.f0,Z ab x.f0.f1,Z ab x.f1.f0,Z ab x.f1.f1] 31)):=(ai (Below.refl w.heap.size w) _)
 have dU:w.heap.size≤w.heap.size:=Nat.le_refl _
 generalize jq:(w.alloc (.cells #[Z ab x.f0.f0,Z ab x.f0.f1,Z ab x.f1.f0,Z ab x.f1.f1] 31)) = W1 at m5 mB ⊢
 clear jq
 generalize hg5:w.heap.size = g5 at m5 ⊢
 have Yd:w.heap.size≤g5:=by omega
 clear dU
 try clear hg5
 have lC:w.heap.size≤W1.heap.size:=mB.size
 go_wp2
 go_loopw [2,11,18] (fun tt o i wr=>∃ (k:Nat) (v_:Value) (X:cZ) (T:Int) (out:List cZ),tt = Z ab T∧v_ = o∧i = Z ab k∧k≤l.length∧Hid (nW s v l x t 0 [] = nW s v (l.drop k) X T k out)∧Hid (out.length = k∧gp X∧0≤T∧T≤1073741824+(k:Int)*131072)∧aZ wr g5 #[Z ab X.f0.f0,Z ab X.f0.f1,Z ab X.f1.f0,Z ab X.f1.f1] 31∧Kd.R Qe 31 wr w.heap.size (fun q=>q≠g5) v_ out∧Below w.heap.size w wr) (fun _ _ i _=>l.length - (intOf i).toNat)
 case atStart=>exact ⟨0,_,x,t,[],rfl,rfl,rfl,Nat.zero_le _,Lib.hid rfl,Lib.hid ⟨rfl,hx,ht0,by omega⟩,m5,Kd.R4 _ _ _ _ _,mB⟩
 case round =>
  clear m5 mB hx ht0 ht1
  obtain ⟨k,v_,X,T,out,rfl,rfl,rfl,hk,HR,HQ,m5,HO,mB⟩:=hrel
  have adB:w.heap.size≤wr.heap.size:=mB.size
  by_cases hlt:k < l.length
  case neg =>
   obtain rfl:k = l.length:=by omega
   have HE:=HR.out
   rw [List.drop_length] at HE
   have HE2:Hid (nW s v l x t 0 [] = (out,(l.length:Int),0)):=Lib.hid HE
   clear HE HR HQ
   go_wp2
   go_ret3
   exact ⟨_,by rw [HE2.out];rfl,by rw [HE2.out];exact Kd.lg HO (fun _ _=>trivial),mB⟩
  case pos =>
   obtain ⟨ad_,e_,hx0,hx1⟩:=Ci hC k (by omega) (by omega)
   cases e_
   simp only [Int.toNat_natCast] at hx0 hx1
   replace hx0:=(mB.cell (World.block_lt_of_cell? w _ hx0)).trans hx0
   replace hx1:=(mB.cell (World.block_lt_of_cell? w _ hx1)).trans hx1
   have hdr:l.drop k = iO l (k:Int) :: l.drop (k+1):=by rw [List.drop_eq_getElem_cons hlt];simp [iO,List.getD_eq_getElem?_getD,hlt]
   have hmem:iO l (k:Int) ∈ l:=List.mem_of_getElem? (i:=k) (by simp [iO,List.getD_eq_getElem?_getD,hlt])
   have hcr:=adA hS.n.layers.1 (List.all_eq_true.1 HALL.out _ hmem)
   clear hmem
   generalize iO l (k:Int) = d at*
   have HR2:Hid (nW s v l x t 0 [] = if jv s v X T≠0 then ([],(k:Int),jv s v X T) else nW s v (l.drop (k+1)) (iX s v X T d.f0 d.f1) (T+v.dive) ((k:Int)+1) (out++[iX s v X T d.f0 d.f1])):=Lib.hid (by rw [HR.out,hdr];rfl)
   clear HR hdr
   obtain ⟨hol,hX,hT0,hT1⟩:=HQ.out
   obtain ⟨⟨hh0,hh1⟩,hl0,hl1⟩:=hcr
   have hdb:=fun h=>PV (t:=T) (hd:=d.f0) (layer:=d.f1) hS hV hX h
   have hdv:=hV.dive
   have HDV:=Lib.hid hdv
   clear HQ
   have kD:=fun W (h:dZ W b s v)=>PX b s v X T d.f0 d.f1 W h hS hV hX hT0 (by omega) hh0 hh1 hl0 hl1
   have HQ1:Hid (out.length = k∧0≤T∧T≤1073741824+(k:Int)*131072∧(jv s v X T = 0→gp (iX s v X T d.f0 d.f1))):=Lib.hid ⟨hol,hT0,hT1,hdb⟩
   clear hol hX hT0 hT1 hh0 hh1 hl0 hl1 hdb hdv
   generalize iX s v X T d.f0 d.f1 = Y at*
   generalize jv s v X T = E at*
   have yn:∀ o_,(wr.alloc o_).cell? ⟨g5,0,none⟩ = some (Z ab X.f0.f0):=fun o_=>(ae (aa m5 o_) 0).trans rfl
   have zG:∀ o_,(wr.alloc o_).cell? ⟨g5,1,none⟩ = some (Z ab X.f0.f1):=fun o_=>(ae (aa m5 o_) 1).trans rfl
   have JY:∀ o_,(wr.alloc o_).cell? ⟨g5,2,none⟩ = some (Z ab X.f1.f0):=fun o_=>(ae (aa m5 o_) 2).trans rfl
   have JZ:∀ o_,(wr.alloc o_).cell? ⟨g5,3,none⟩ = some (Z ab X.f1.f1):=fun o_=>(ae (aa m5 o_) 3).trans rfl
   go_wp2_with fail
   clear yn zG JY JZ
   clear hx0 hx1
   replace HO:=Kd.fZ HO (ai (Below.refl wr.heap.size wr) (.cells #[Z ab d.f0,Z ab d.f1] 33))
   have uj:=aD m5
   have m13:aZ (wr.alloc (.cells #[Z ab d.f0,Z ab d.f1] 33)) (wr.heap.size) #[Z ab d.f0,Z ab d.f1] 33:=arB
   replace m5:aZ (wr.alloc (.cells #[Z ab d.f0,Z ab d.f1] 33)) g5 #[Z ab X.f0.f0,Z ab X.f0.f1,Z ab X.f1.f0,Z ab X.f1.f1] 31:=(aa m5 _)
   replace mB:Below w.heap.size w (wr.alloc (.cells #[Z ab d.f0,Z ab d.f1] 33)):=(ai mB _)
   have dU:w.heap.size≤wr.heap.size:=adB
   generalize jq:(wr.alloc (.cells #[Z ab d.f0,Z ab d.f1] 33)) = W2 at m5 m13 mB HO ⊢
   clear jq
   generalize Us:wr.heap.size = g13 at m13 ⊢
   have pX:g5≠g13:=by omega
   have jB:g13≠g5:=pX.symm
   have Kk:w.heap.size≤g13:=by omega
   clear dU uj
   try clear Us
   have mY:w.heap.size≤W2.heap.size:=mB.size
   have hcon:=kD W2 (hT.below mB)
   clear kD
   (with_reducible refine hcon.mono ?_)
   clear hcon
   rintro e W3 ⟨rfl,hb⟩
   replace HO:=Kd.fZ HO hb
   replace m5:=af m5 hb
   replace m13:=af m13 hb
   replace mB:=aJ mB hb
   clear hb
   have uY:w.heap.size≤W3.heap.size:=mB.size
   by_cases hE:E = 0
   case neg =>
    have HZ:=Lib.hid (HR2.out.trans (if_pos hE))
    have hd1:(E == 0) = false:=beq_eq_false_iff_ne.2 hE
    have hd2:(E != 0) = true:=by rw [bne,hd1];rfl
    clear hE HR2 HQ1
    go_wp2
    go_ret3
    exact ⟨_,jD,Ut,by repeat (first|exact mB|apply ai)⟩
   case pos =>
    have HR3:=Lib.hid (HR2.out.trans (if_neg (fun h=>h hE)))
    have HQ2:Hid (out.length = k∧0≤T∧T≤1073741824+(k:Int)*131072∧gp Y):=Lib.hid ⟨HQ1.out.1,HQ1.out.2.1,HQ1.out.2.2.1,HQ1.out.2.2.2 hE⟩
    clear HR2 HQ1
    subst hE
    have akY:=aD m5
    have hol:Hid ((out.length+1)*32≤140737488355328):=Lib.hid (by have:=HQ2.out.1;omega)
    have hne5:some g5≠v_.ownBlock:=fun h=>HO.1 g5 h.symm rfl
    have anL:some W3.heap.size≠v_.ownBlock:=fun h=>by have:=Kd.aqM HO _ h.symm;omega
    go_wp2_with (first|((with_reducible refine uL (b:=.append) (xs:=#[.tmp 35,.tmp 37]) rfl ?_);(try (refine jI (by rfl) ?_;dsimp only));at_builtin;go_loud (refine Kd.FR Qe (w0:=w) w.heap.size rfl (.tmp 35) (.tmp 37) 50 31 (.agg #[Z ab 0,Z ab 0,Z ab 0,Z ab 0]) 32 rfl Try.underlying50 ahn rfl (by decide) (by decide) v_ out Y [Z ab Y.f0.f0,Z ab Y.f0.f1,Z ab Y.f1.f0,Z ab Y.f1.f1] (fun q=>q≠g5) (fun _=>False) rfl (by first|rfl|(go_simp;done)|(go_simp;rfl)) ?aP (fun _ hk=>hk.elim) ?aF ?aO ?aB ?aS ?aL ?_);(case aP=>exact adD _ _ _ Y);(case aF=>exact (fun q hq=>by have h_:=aD m5;simp only [World.size_alloc] at hq;omega));(case aO=>exact Kd.fZ HO (ai (Below.refl _ _) _));(case aB=>exact ai mB _);(case aS=>(have h_:=mB.size;simp only [World.size_alloc];omega));(case aL=>exact hol.out);intro v1 w1 HO1 hB1 hgr hat))
    replace m5:=dS (aa m5 _) hgr hne5
    have m14:=dS (bB W3 (.cells #[Z ab Y.f0.f0,Z ab Y.f0.f1,Z ab Y.f1.f0,Z ab Y.f1.f1] 31)) hgr anL
    have vO:g5≠W3.heap.size:=by have h_:=akY;omega
    clear akY
    clear hgr hat HO hne5 anL m13 mB hol
    generalize Tv:W3.heap.size = g14 at m14 vO ⊢
    have jk:=vO.symm
    clear Tv
    have mB:=hB1
    clear hB1
    obtain ⟨A7,c7,A8,c8,mT,_⟩:=hT.below mB
    replace m5:=au m5
    replace m14:=au m14
    replace mT:=au mT
    replace mB:=bf mB
    replace HO1:=Kd.fZ HO1 (bf (Below.refl w1.heap.size w1))
    have hbn:b≠g5:=by have h_:=hT;obtain ⟨_,_,_,_,h_,_⟩:=h_;have h2_:=(Array.getElem?_eq_some_iff.1 h_).1;omega
    refine lh (n:=10) (S:=fun w'=>w'.cell? ⟨g14,0,none⟩ = some (Z ab Y.f0.f0)∧w'.cell? ⟨g14,1,none⟩ = some (Z ab Y.f0.f1)∧w'.cell? ⟨g14,2,none⟩ = some (Z ab Y.f1.f0)∧w'.cell? ⟨g14,3,none⟩ = some (Z ab Y.f1.f1)∧w'.cell? ⟨b,10,none⟩ = some (Z ab v.dive)) (ds:=[]) #[al,al,al,al,al,al,al,al,al,al] aT rfl rfl ⟨((ae m14 0).trans rfl),((ae m14 1).trans rfl),((ae m14 2).trans rfl),((ae m14 3).trans rfl),((ae mT 10).trans rfl)⟩ (fun hHeld=>?_)
    generalize hWd:World.drew _ = Wx at*
    clear hWd
    refine dG (i:=1) (N:=some 40) aT ?_
    refine dG (i:=2) (N:=some 41) aT ?_
    refine dG (i:=3) (N:=some 42) aT ?_
    refine dG (i:=4) (N:=some 43) aT ?_
    refine dG (i:=5) (N:=some 44) aT ?_
    refine iy (i:=0) (N:=some 39) aT hHeld ?_
    refine iy (i:=6) (N:=some 45) aT hHeld ?_
    refine dG (i:=7) (N:=some 46) aT ?_
    refine jC (i:=8) (N:=none) #[ac,ac,ac,ac,ac,ac,ac,ac,ac,al] rfl rfl aT (by decide) (fun K hK=>?_)
    have Cb:=aK m5 0
    have Fs:=aK m5 1
    have Ty:=aK m5 2
    have Tz:=aK m5 3
    have zM:=(ae m5 0).trans rfl
    have Fu:=(ae m5 1).trans rfl
    have TA:=(ae m5 2).trans rfl
    have TB:=(ae m5 3).trans rfl
    refine qp (w1:=?_) (by rfl) rfl ?_ ?_
    rotate_left
    ·go_simp
     rfl
    refine hK.out _ _ ⟨((ae (ah (p:=⟨g5,3,none⟩) (ah (p:=⟨g5,2,none⟩) (ah (p:=⟨g5,1,none⟩) (ah (p:=⟨g5,0,none⟩) m14 jk _) jk _) jk _) jk _) 0).trans rfl),((ae (ah (p:=⟨g5,3,none⟩) (ah (p:=⟨g5,2,none⟩) (ah (p:=⟨g5,1,none⟩) (ah (p:=⟨g5,0,none⟩) m14 jk _) jk _) jk _) jk _) 1).trans rfl),((ae (ah (p:=⟨g5,3,none⟩) (ah (p:=⟨g5,2,none⟩) (ah (p:=⟨g5,1,none⟩) (ah (p:=⟨g5,0,none⟩) m14 jk _) jk _) jk _) jk _) 2).trans rfl),((ae (ah (p:=⟨g5,3,none⟩) (ah (p:=⟨g5,2,none⟩) (ah (p:=⟨g5,1,none⟩) (ah (p:=⟨g5,0,none⟩) m14 jk _) jk _) jk _) jk _) 3).trans rfl),((ae (ah (p:=⟨g5,3,none⟩) (ah (p:=⟨g5,2,none⟩) (ah (p:=⟨g5,1,none⟩) (ah (p:=⟨g5,0,none⟩) mT hbn _) hbn _) hbn _) hbn _) 10).trans rfl)⟩ (fun hHeld=>?_)
    clear hK K
    refine dG (i:=9) (N:=some 2) aT ?_
    refine ma aT ?_
    go_wp2
    go_roundw
    case rel =>
     have hq:=HQ2.out
     have hv:=HDV.out
     have hwr:wrap64 (T+v.dive) = T+v.dive:=by unfold wrap64;omega
     exact ⟨k+1,v1,Y,T+v.dive,out++[Y],by rw [hwr],rfl,by simp,by omega,Lib.hid HR3.out,Lib.hid ⟨by rw [List.length_append];simp;omega,hq.2.2.2,by omega,by omega⟩,(az (az (az (az m5 0 (Z ab Y.f0.f0) rfl) 1 (Z ab Y.f0.f1) rfl) 2 (Z ab Y.f1.f0) rfl) 3 (Z ab Y.f1.f1) rfl),(Kd.bT (p:=⟨g5,3,none⟩) (Kd.bT (p:=⟨g5,2,none⟩) (Kd.bT (p:=⟨g5,1,none⟩) (Kd.bT (p:=⟨g5,0,none⟩) HO1 (fun _ hk=>hk) _) (fun _ hk=>hk) _) (fun _ hk=>hk) _) (fun _ hk=>hk) _),(Below.setCell (p:=⟨g5,3,none⟩) (Below.setCell (p:=⟨g5,2,none⟩) (Below.setCell (p:=⟨g5,1,none⟩) (Below.setCell (p:=⟨g5,0,none⟩) mB Yd _) Yd _) Yd _) Yd _)⟩
    case measure=>simp [intOf];omega
end Go.Proofs.Ytmhaiihjfgfaoaa.Gl
end
