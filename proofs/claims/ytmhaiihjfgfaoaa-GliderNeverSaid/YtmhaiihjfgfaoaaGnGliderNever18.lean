import Derived.Test.YtmhaiihjfgfaoaaGnGliderNever3
import Derived.Test.YtmhaiihjfgfaoaaGnGliderNever17
set_option linter.unusedSimpArgs false
set_option linter.unusedVariables false
open Go.Value renaming int → Z
open Go.IntKind renaming i64 → ab
open Bool renaming true → ac, false → al
section
namespace Go.Proofs.Ytmhaiihjfgfaoaa.Gl
open Go.RowKit Go.Shelf Go.Proofs.YtmhaiihjfgfaoaaW.PrintWords Go.Proofs.YtmhaiihjfgfaoaaW.PrintLast Go.Proofs.YtmhaiihjfgfaoaaW.PrintMore Go.Proofs.Ytmhaiihjfgfaoaa.Pr Go.Proofs.YtmhaiihjfgfaoaaW.Round
set_option linter.unusedVariables false
set_option linter.unusedSimpArgs false
attribute [local go_sem] dw dx dM dN dz
attribute [local go_sem] Oper.semAt_some
theorem YN {s:fT} {v:iw} {x:cZ} {t hd layer:Int} (hS:BQ s) (hV:uF v) (hx:gp x) (hr:eP s v x t = 0):gp (jl s v x (dE s v x) t hd layer):=by
 obtain ⟨_,_,⟨a0,a1⟩,b0,b1⟩:=yx hS.n hV hx hr
 obtain ⟨_,o1,o2⟩:=hx
 have hdv:=hV.dive
 have hsp:=hV.speed
 have hdi:=LP hd
 have hai:=adp hS.cb (dE s v x) layer t (t+v.dive)
 unfold jl jG gp Cc PW upM
 dsimp only
 generalize R8 s (dE s v x) layer t (t+v.dive) = y at*
 generalize Cf hd = d at*
 obtain ⟨⟨y0,y1⟩,⟨y2,y3⟩,⟨y4,y5⟩,⟨y6,y7⟩,y8,y9⟩:=hai
 have m0:=iP (a:=d.1) (b:=v.speed) (m:=1000) (n:=5000) hdi.1.1 hdi.1.2 hsp.1 hsp.2 (by omega)
 have m1:=iP (a:=d.2) (b:=v.speed) (m:=1000) (n:=5000) hdi.2.1 hdi.2.2 hsp.1 hsp.2 (by omega)
 generalize d.1*v.speed = e at*
 generalize d.2*v.speed = f at*
 have n0:=iP (a:=e+1000*y.f0.f0) (b:=v.dive) (m:=10000000) (n:=131072) (by omega) (by omega) (by omega) (by omega) (by omega)
 have n1:=iP (a:=e+1000*y.f0.f1) (b:=v.dive) (m:=10000000) (n:=131072) (by omega) (by omega) (by omega) (by omega) (by omega)
 have n2:=iP (a:=f+1000*y.f1.f0) (b:=v.dive) (m:=10000000) (n:=131072) (by omega) (by omega) (by omega) (by omega) (by omega)
 have n3:=iP (a:=f+1000*y.f1.f1) (b:=v.dive) (m:=10000000) (n:=131072) (by omega) (by omega) (by omega) (by omega) (by omega)
 have k0:=Int.mul_le_mul_of_nonneg_right (show e+1000*y.f0.f0≤e+1000*y.f0.f1 by omega) (show 0≤v.dive by omega)
 have k1:=Int.mul_le_mul_of_nonneg_right (show f+1000*y.f1.f0≤f+1000*y.f1.f1 by omega) (show 0≤v.dive by omega)
 generalize (e+1000*y.f0.f0)*v.dive = A at*
 generalize (e+1000*y.f0.f1)*v.dive = B at*
 generalize (f+1000*y.f1.f0)*v.dive = C at*
 generalize (f+1000*y.f1.f1)*v.dive = E at*
 clear m0 m1 hdi hdv hsp hr
 omega
theorem aho {a b:cZ} (ha:gp a) (hb:gp b):gp (mW a b):=by
 unfold gp Cc at*
 unfold mW
 dsimp only
 omega
def oD (s:fT) (v:iw) (x g:cZ) (t:Int) (A:cZ) (l:List eQ):cZ:=l.foldl (fun a c=>mW a (jl s v x g t c.f0 c.f1)) A
theorem abE (s:fT) (v:iw) (x g:cZ) (t:Int) (A:cZ) (l:List eQ) (c:eQ):oD s v x g t A (l++[c]) = mW (oD s v x g t A l) (jl s v x g t c.f0 c.f1):=by unfold oD;rw [List.foldl_append];rfl
def Cy (s:fT) (v:iw) (x:cZ) (t:Int):cZ:=oD s v x (dE s v x) t (jl s v x (dE s v x) t 0 0) (oP s)
theorem YO {s:fT} {v:iw} {x:cZ} {t:Int} (hS:BQ s) (hV:uF v) (hx:gp x) (hr:eP s v x t = 0):∀ (l:List eQ) (A:cZ),gp A→gp (oD s v x (dE s v x) t A l)
 |[],A,h=>h
 |c :: l,A,h=>YO hS hV hx hr l _ (aho h (YN hS hV hx hr))
theorem ahp {s:fT} {v:iw} {x:cZ} {t:Int} (hS:BQ s) (hV:uF v) (hx:gp x) (hr:eP s v x t = 0):gp (Cy s v x t):=YO hS hV hx hr _ _ (YN hS hV hx hr)
def iZ (s:fT) (v:iw):Nat→cZ→Int→List cZ→List cZ × Int
 |0,_,_,out=>(out,0)
 |n+1,x,t,out=>if eP s v x t≠0 then ([],eP s v x t) else iZ s v n (Cy s v x t) (t+v.dive) (out++[Cy s v x t])
def YP (R:List cZ × Int) (w:World) (e:Ending) (w':World):Prop:=∃ Ur:Value,e = .returned (.tuple #[Ur,Z ab R.2])∧Kd.R Qe 31 w' w.heap.size (fun _=>True) Ur R.1∧Below w.heap.size w w'
def RQ (w:World) (bp b:Nat) (A B:World):Prop:=Below w.heap.size A B∧(aZ A bp #[.pointer (some ⟨b,0,none⟩)] 104→aZ B bp #[.pointer (some ⟨b,0,none⟩)] 104)
theorem RQ.trans {w:World} {bp b:Nat} {A B C:World} (h:RQ w bp b A B) (k:RQ w bp b B C):RQ w bp b A C:=⟨h.1.trans k.1,fun q=>k.2 (h.2 q)⟩
theorem RQ.put {w W0:World} {bp b:Nat} (hw:w.heap.size≤W0.heap.size) (hp:bp < W0.heap.size) (W:World) (l:Nat) (o o':Obj) (hl:W0.heap.size≤l) (h:W.heap[l]? = some o) (h1:o.isCells = false) (h2:o.isWalk = false):RQ w bp b W (W.putObj l o') :=
 ⟨belowK_b hw W l o o' hl h h1 h2,fun q=>(World.putObj_heap_other (by omega)).trans q⟩
theorem RQ.below {w:World} {bp b:Nat} {A B:World} (hw:w.heap.size≤A.heap.size) (h:Below A.heap.size A B):RQ w bp b A B:=⟨h.mono hw,fun q=>aZ.qm q h⟩
theorem RQ.set {w:World} {bp b:Nat} {A B:World} (h:RQ w bp b A B) {p:Addr} (hp:w.heap.size≤p.block) (h1:bp≠p.block) (u:Value):RQ w bp b A (B.setCell p u):=⟨h.1.setCell hp u,fun q=>ah (h.2 q) h1 u⟩
theorem Sr {α:Type} {d:Kd α} {e base:Nat} {ok:Nat→Prop} {v:Value} {xs:List α} {X Y:World} (h:d.R e X base ok v xs) (hm:∀ k c t f,k < X.heap.size→X.heap[k]? = some (.cells c t f)→Y.heap[k]? = X.heap[k]?):d.R e Y base ok v xs :=
 Kd.lg (Kd.abj (Kd.vI h) (fun k hk hs=>by
  obtain ⟨_,_,_,q,_,cells,hc⟩:=hk
  exact hm k _ _ _ hs hc)) (fun k hk=>hk.1)
theorem afT {β α:Type} (d:Kd α) (e base:Nat) (ok:Nat→Prop) (v:Value) (xs:List α) (B:Nat):OwnFrom B (fun (_:β) W=>d.R e W base ok v xs):=fun s X Y row hs hg hr =>
 Sr hs (fun k c t f hk hc=>hg.block k hk (fun e_=>by
  obtain ⟨_,o_,ho,hn⟩:=hr k e_.symm
  rw [hc] at ho
  cases ho
  cases hn))
theorem apu {α:Type} {d:Kd α} {e base:Nat} {ok:Nat→Prop} {v:Value} {xs:List α} {X:World} (h:d.R e X base ok v xs) {D_:Nat} {q:Option (List Deferred)} (hD:X.heap[D_]? = some (.deferred q)) (o_:Obj):d.R e (X.putObj D_ o_) base ok v xs :=
 Sr h (fun k c t f hk hc=>World.putObj_heap_other (fun e_=>by
  rw [← e_] at hD
  rw [hc] at hD
  cases hD))
theorem Marks.grown {X Y:World} {B:Nat} {Ds:List Nat} {row:Option Nat} (h:Marks X B Ds) (hg:X.grownBy Y row) (hne:∀ D_ ∈ Ds,some D_≠row):Marks Y B Ds :=
 ⟨h.1,fun D_ hD=>⟨(h.2 D_ hD).1,(hg.block D_ (Array.getElem?_eq_some_iff.1 (h.2 D_ hD).2).1 (hne D_ hD)).trans (h.2 D_ hD).2⟩⟩
set_option maxRecDepth 100000 in
set_option maxHeartbeats 16000000 in
theorem afU (b:Nat) (s:fT) (v:iw) (x:cZ) (t:Int) (n:Nat) (w:World) (hT:dZ w b s v) (hS:BQ s) (hV:uF v) (hx:gp x) (ht0:0≤t) (ht1:t≤1073741824) (hn:n≤64):
 Calls Try.prog 98 #[.pointer (some ⟨b,0,none⟩),.agg #[Z ab x.f0.f0,Z ab x.f0.f1,Z ab x.f1.f0,Z ab x.f1.f1],Z ab t,Z ab (n:Int)] w (YP (iZ s v n x t []) w):=by
 have pG:=Try.underlying31
 have F5:=Try.underlying33
 have mE:=Try.underlying27
 refine (callsIn_wide (n:=7)).1 ?_
 refine callsIn_of_wp_marks Try.func98 rfl trivial ?_ rfl
 simp only [Try.ntmps98,List.size_toArray,List.length_cons,List.length_nil,Nat.reduceAdd,Nat.reduceSub,Array.replicate_succ,Array.replicate_zero,List.push_toArray,List.append_toArray,List.nil_append,List.cons_append]
 gi_wp2_with fail
 have m4:aZ (((w.alloc (.cells #[.pointer (some ⟨b,0,none⟩)] 104)).alloc (.cells #[Z ab x.f0.f0,Z ab x.f0.f1,Z ab x.f1.f0,Z ab x.f1.f1] 31)).alloc (.cells #[Z ab t] 2)) (w.heap.size) #[.pointer (some ⟨b,0,none⟩)] 104:=(aa (aa aoM _) _)
 have m5:aZ (((w.alloc (.cells #[.pointer (some ⟨b,0,none⟩)] 104)).alloc (.cells #[Z ab x.f0.f0,Z ab x.f0.f1,Z ab x.f1.f0,Z ab x.f1.f1] 31)).alloc (.cells #[Z ab t] 2)) (w.heap.size+1) #[Z ab x.f0.f0,Z ab x.f0.f1,Z ab x.f1.f0,Z ab x.f1.f1] 31:=(aa aoN _)
 have m6:aZ (((w.alloc (.cells #[.pointer (some ⟨b,0,none⟩)] 104)).alloc (.cells #[Z ab x.f0.f0,Z ab x.f0.f1,Z ab x.f1.f0,Z ab x.f1.f1] 31)).alloc (.cells #[Z ab t] 2)) (w.heap.size+1+1) #[Z ab t] 2:=(by have h_:=bB ((w.alloc (.cells #[.pointer (some ⟨b,0,none⟩)] 104)).alloc (.cells #[Z ab x.f0.f0,Z ab x.f0.f1,Z ab x.f1.f0,Z ab x.f1.f1] 31)) (.cells #[Z ab t] 2);first|exact h_|(simp only [World.size_alloc] at h_;exact h_))
 have mB:Below w.heap.size w (((w.alloc (.cells #[.pointer (some ⟨b,0,none⟩)] 104)).alloc (.cells #[Z ab x.f0.f0,Z ab x.f0.f1,Z ab x.f1.f0,Z ab x.f1.f1] 31)).alloc (.cells #[Z ab t] 2)):=(ai (ai (ai (Below.refl w.heap.size w) _) _) _)
 have dU:w.heap.size≤w.heap.size:=Nat.le_refl _
 generalize jq:(((w.alloc (.cells #[.pointer (some ⟨b,0,none⟩)] 104)).alloc (.cells #[Z ab x.f0.f0,Z ab x.f0.f1,Z ab x.f1.f0,Z ab x.f1.f1] 31)).alloc (.cells #[Z ab t] 2)) = W1 at m4 m5 m6 mB ⊢
 clear jq
 generalize hg4:w.heap.size = g4 at m4 m5 m6 ⊢
 have hG4:w.heap.size≤g4:=by omega
 generalize hg5:g4+1 = g5 at m5 m6 ⊢
 have mJ:g4≠g5:=by omega
 have TT:g5≠g4:=mJ.symm
 have Yd:w.heap.size≤g5:=by omega
 generalize Ye:g5+1 = g6 at m6 ⊢
 have um:g4≠g6:=by omega
 have nI:g5≠g6:=by omega
 have TE:g6≠g4:=um.symm
 have iT:g6≠g5:=nI.symm
 have RB:w.heap.size≤g6:=by omega
 clear dU
 try clear Ye
 try clear hg5
 try clear hg4
 have lC:w.heap.size≤W1.heap.size:=mB.size
 skip
 refine wpIn_loop (fun a W=>∃ (k:Nat) (X:cZ) (T:Int) (out:List cZ) (v_:Value) (Ds:List Nat) (u_:Nat→Value),a = { tmps:=#[(u_ 0),(u_ 1),(u_ 2),(u_ 3),.pointer (some ⟨g4,0,none⟩),.pointer (some ⟨g5,0,none⟩),.pointer (some ⟨g6,0,none⟩),(u_ 7),(u_ 8),(u_ 9),v_,(u_ 11),(u_ 12),(u_ 13),(u_ 14),Z ab (n:Int),Z ab (k:Int),(u_ 17),(u_ 18),(u_ 19),(u_ 20),(u_ 21),(u_ 22),(u_ 23),(u_ 24),(u_ 25),(u_ 26),(u_ 27),(u_ 28),(u_ 29),(u_ 30),(u_ 31),(u_ 32),(u_ 33),(u_ 34),(u_ 35),(u_ 36),(u_ 37),(u_ 38),(u_ 39),(u_ 40),(u_ 41),(u_ 42),(u_ 43),(u_ 44),(u_ 45),(u_ 46),(u_ 47),(u_ 48),(u_ 49),(u_ 50),(u_ 51),(u_ 52),(u_ 53),(u_ 54),(u_ 55),(u_ 56),(u_ 57),(u_ 58)],defers:=Ds.map mark }∧k≤n∧Hid (iZ s v n x t [] = iZ s v (n - k) X T out)∧Hid (out.length = k∧gp X∧0≤T∧T≤1073741824+(k:Int)*131072)∧Marks W w.heap.size Ds∧aZ W g4 #[.pointer (some ⟨b,0,none⟩)] 104∧aZ W g5 #[Z ab X.f0.f0,Z ab X.f0.f1,Z ab X.f1.f0,Z ab X.f1.f1] 31∧aZ W g6 #[Z ab T] 2∧Kd.R Qe 31 W w.heap.size (fun q=>q≠g5) v_ out∧Below w.heap.size w W) (fun a _=>((n:Int) - intOf (a.tmps.getD 16 undef)).toNat) ⟨0,x,t,[],.slice none 0 0,[],(fun k=>(#[.pointer (some ⟨b,0,none⟩),.agg #[Z ab x.f0.f0,Z ab x.f0.f1,Z ab x.f1.f0,Z ab x.f1.f1],Z ab t,Z ab (n:Int),.pointer (some ⟨g4,0,none⟩),.pointer (some ⟨g5,0,none⟩),.pointer (some ⟨g6,0,none⟩),undef,.slice none 0 0,Z ab 0,.slice none 0 0,undef,undef,undef,undef,Z ab (n:Int),Z ab 0,undef,undef,undef,undef,undef,undef,undef,undef,undef,undef,undef,undef,undef,undef,undef,undef,undef,undef,undef,undef,undef,undef,undef,undef,undef,undef,undef,undef,undef,undef,undef,undef,undef,undef,undef,undef,undef,undef,undef,undef,undef,undef]:Array Value).getD k undef),rfl,Nat.zero_le _,Lib.hid rfl,Lib.hid ⟨rfl,hx,ht0,by omega⟩,Marks.nil _ _,m4,m5,m6,Kd.R4 _ _ _ _ _,mB⟩ ?_
 clear m4 m5 m6 mB hx ht0 ht1
 rintro a_ W ⟨k,X,T,out,v_,Ds,u_,rfl,hk,HR,HQ,hM,m4,m5,m6,HO,mB⟩
 have akD:w.heap.size≤W.heap.size:=mB.size
 skip
 by_cases hlt:k < n
 case neg =>
  obtain rfl:k = n:=by omega
  have HE:=HR.out
  rw [Nat.sub_self] at HE
  have HE2:Hid (iZ s v k x t [] = (out,0)):=Lib.hid HE
  clear HE HR HQ
  have hnl:¬ ((k:Int) < (k:Int)):=by omega
  gi_wp2
  skip
  exact iV (fun W_=>Kd.R Qe 31 W_ w.heap.size (fun q=>q≠g5) v_ out∧Below w.heap.size w W_) (fun W_ D_ h hB hD=>⟨apu h.1 hD _,h.2.trans (belowK_b (w:=w) (Nat.le_refl _) W_ D_ _ _ hB hD rfl rfl)⟩) (fun W_ h=>⟨_,results_tmp2 rfl _ _ _,_,by rw [HE2.out];rfl,by rw [HE2.out];exact Kd.lg h.1 (fun _ _=>trivial),h.2⟩) Ds _ hM ⟨HO,mB⟩
 case pos =>
  obtain ⟨hol,hX,hT0,hT1⟩:=HQ.out
  have hdv:=hV.dive
  have HDV:=Lib.hid hdv
  have HR2:Hid (iZ s v n x t [] = if eP s v X T≠0 then ([],eP s v X T) else iZ s v (n - (k+1)) (Cy s v X T) (T+v.dive) (out++[Cy s v X T])):=Lib.hid (by rw [HR.out,show n - k = (n - (k+1))+1 by omega];rfl)
  clear HR
  have hkk:((k:Int) < (n:Int)):=by omega
  have kR:=fun W (h:dZ W b s v)=>JR b s v X T W h hS.n hV hX.1 hT0 (by omega)
  have hok:=fun h=>ahp (t:=T) hS hV hX h
  have hro:=fun h=>yx (t:=T) hS.n hV hX h
  have HV:Hid (eP s v X T = 0→rC s v X T = dE s v X):=Lib.hid (fun h=>if_pos h)
  have HXS:Hid (gp X):=Lib.hid hX
  clear hdv hX
  have RD:=(ae m4 0).trans rfl
  obtain ⟨yn,zG,JY,JZ⟩:=mH m5
  have zF:=(ae m6 0).trans rfl
  gi_wp2_with fail
  skip
  clear hkk RD yn zG JY JZ zF
  skip
  have hcon:=kR W (hT.below mB)
  refine ⟨trivial,(callsIn_wide.2 hcon).mono ?_⟩
  clear hcon
  rintro e W2 ⟨rfl,hb⟩
  replace HO:=Kd.fZ HO hb
  replace hM:=hM.below hb
  replace m4:=af m4 hb
  replace m5:=af m5 hb
  replace m6:=af m6 hb
  replace mB:=aJ mB hb
  clear hb
  have mY:w.heap.size≤W2.heap.size:=mB.size
  clear kR
  generalize eP s v X T = E at*
  generalize rC s v X T = G at*
  by_cases hE:E = 0
  case neg =>
   have HZ:=Lib.hid (HR2.out.trans (if_pos hE))
   have hd1:(E == 0) = false:=beq_eq_false_iff_ne.2 hE
   have hd2:(E != 0) = true:=by rw [bne,hd1];rfl
   clear hE HR2 hok hro
   gi_wp2
   skip
   exact iV (fun W_=>Below w.heap.size w W_) (fun W_ D_ h hB hD=>h.trans (belowK_b (w:=w) (Nat.le_refl _) W_ D_ _ _ hB hD rfl rfl)) (fun W_ h=>⟨_,results_tmp2 rfl _ _ _,_,jD,Ut,h⟩) Ds _ (hM.below (ai (Below.refl _ _) _)) (ai mB _)
  case pos =>
   have HR3:=Lib.hid (HR2.out.trans (if_neg (fun h=>h hE)))
   have hX2:=hok hE
   obtain ⟨hin,⟨_,htd⟩,_⟩:=hro hE
   have RS:=Lib.hid hX2
   have hG:=HV.out hE
   clear HR2 hok hro HV hX2
   subst hE
   subst hG
   have hla:=hS.n.layers
   have kE:=fun W hd layer (h:dZ W b s v) (h0:0≤hd) (h1:hd≤8) (h2:0≤layer) (h3:layer < s.layers)=>PR b s v X (dE s v X) T hd layer W h hS.n hV hS.cu hS.cb HXS.out.1 hin hT0 htd h0 h1 h2 h3
   have HST:Hid (Cy s v X T = oD s v X (dE s v X) T (jl s v X (dE s v X) T 0 0) (oP s)):=Lib.hid rfl
   generalize Cy s v X T = H at*
   generalize dE s v X = G at*
   have RD:∀ o_,(W2.alloc o_).cell? ⟨g4,0,none⟩ = some (.pointer (some ⟨b,0,none⟩)):=fun o_=>(ae (aa m4 o_) 0).trans rfl
   have yn:∀ o_,(W2.alloc o_).cell? ⟨g5,0,none⟩ = some (Z ab X.f0.f0):=fun o_=>(ae (aa m5 o_) 0).trans rfl
   have zG:∀ o_,(W2.alloc o_).cell? ⟨g5,1,none⟩ = some (Z ab X.f0.f1):=fun o_=>(ae (aa m5 o_) 1).trans rfl
   have JY:∀ o_,(W2.alloc o_).cell? ⟨g5,2,none⟩ = some (Z ab X.f1.f0):=fun o_=>(ae (aa m5 o_) 2).trans rfl
   have JZ:∀ o_,(W2.alloc o_).cell? ⟨g5,3,none⟩ = some (Z ab X.f1.f1):=fun o_=>(ae (aa m5 o_) 3).trans rfl
   have zF:∀ o_,(W2.alloc o_).cell? ⟨g6,0,none⟩ = some (Z ab T):=fun o_=>(ae (aa m6 o_) 0).trans rfl
   gi_wp2_with fail
   clear RD yn zG JY JZ zF
   skip
   replace HO:=Kd.fZ HO (ai (Below.refl W2.heap.size W2) (.cells #[Z ab G.f0.f0,Z ab G.f0.f1,Z ab G.f1.f0,Z ab G.f1.f1] 31))
   replace hM:=hM.below (ai (Below.refl W2.heap.size W2) (.cells #[Z ab G.f0.f0,Z ab G.f0.f1,Z ab G.f1.f0,Z ab G.f1.f1] 31))
   have PO:=aD m4
   have uj:=aD m5
   have rz:=aD m6
   have m11:aZ (W2.alloc (.cells #[Z ab G.f0.f0,Z ab G.f0.f1,Z ab G.f1.f0,Z ab G.f1.f1] 31)) (W2.heap.size) #[Z ab G.f0.f0,Z ab G.f0.f1,Z ab G.f1.f0,Z ab G.f1.f1] 31:=aq9
   replace m4:aZ (W2.alloc (.cells #[Z ab G.f0.f0,Z ab G.f0.f1,Z ab G.f1.f0,Z ab G.f1.f1] 31)) g4 #[.pointer (some ⟨b,0,none⟩)] 104:=(aa m4 _)
   replace m5:aZ (W2.alloc (.cells #[Z ab G.f0.f0,Z ab G.f0.f1,Z ab G.f1.f0,Z ab G.f1.f1] 31)) g5 #[Z ab X.f0.f0,Z ab X.f0.f1,Z ab X.f1.f0,Z ab X.f1.f1] 31:=(aa m5 _)
   replace m6:aZ (W2.alloc (.cells #[Z ab G.f0.f0,Z ab G.f0.f1,Z ab G.f1.f0,Z ab G.f1.f1] 31)) g6 #[Z ab T] 2:=(aa m6 _)
   replace mB:Below w.heap.size w (W2.alloc (.cells #[Z ab G.f0.f0,Z ab G.f0.f1,Z ab G.f1.f0,Z ab G.f1.f1] 31)):=(ai mB _)
   have dU:w.heap.size≤W2.heap.size:=mY
   generalize jq:(W2.alloc (.cells #[Z ab G.f0.f0,Z ab G.f0.f1,Z ab G.f1.f0,Z ab G.f1.f1] 31)) = W3 at m4 m5 m6 m11 mB HO hM ⊢
   clear jq
   generalize Uu:W2.heap.size = g11 at m11 ⊢
   have L8:g4≠g11:=by omega
   have Gh:g5≠g11:=by omega
   have pW:g6≠g11:=by omega
   have adE:g11≠g4:=L8.symm
   have Uv:g11≠g5:=Gh.symm
   have Uw:g11≠g6:=pW.symm
   have PU:w.heap.size≤g11:=by omega
   clear dU PO uj rz
   try clear Uu
   have uY:w.heap.size≤W3.heap.size:=mB.size
   have hcon:=kE W3 0 0 (hT.below mB) (by omega) (by omega) (by omega) (by omega)
   refine ⟨trivial,(callsIn_wide.2 hcon).mono ?_⟩
   clear hcon
   rintro e W4 ⟨rfl,hb⟩
   replace HO:=Kd.fZ HO hb
   replace hM:=hM.below hb
   replace m4:=af m4 hb
   replace m5:=af m5 hb
   replace m6:=af m6 hb
   replace m11:=af m11 hb
   replace mB:=aJ mB hb
   clear hb
   have E5:w.heap.size≤W4.heap.size:=mB.size
   generalize jl s v X G T 0 0 = A at*
   have RD:∀ o_,(W4.alloc o_).cell? ⟨g4,0,none⟩ = some (.pointer (some ⟨b,0,none⟩)):=fun o_=>(ae (aa m4 o_) 0).trans rfl
   have yn:∀ o_,(W4.alloc o_).cell? ⟨g5,0,none⟩ = some (Z ab X.f0.f0):=fun o_=>(ae (aa m5 o_) 0).trans rfl
   have zG:∀ o_,(W4.alloc o_).cell? ⟨g5,1,none⟩ = some (Z ab X.f0.f1):=fun o_=>(ae (aa m5 o_) 1).trans rfl
   have JY:∀ o_,(W4.alloc o_).cell? ⟨g5,2,none⟩ = some (Z ab X.f1.f0):=fun o_=>(ae (aa m5 o_) 2).trans rfl
   have JZ:∀ o_,(W4.alloc o_).cell? ⟨g5,3,none⟩ = some (Z ab X.f1.f1):=fun o_=>(ae (aa m5 o_) 3).trans rfl
   have zF:∀ o_,(W4.alloc o_).cell? ⟨g6,0,none⟩ = some (Z ab T):=fun o_=>(ae (aa m6 o_) 0).trans rfl
   gi_wp2_with fail
   clear RD yn zG JY JZ zF
   replace HO:Kd.R Qe 31 W4 w.heap.size (fun q=>q≠g5∧q≠W4.heap.size) v_ out:=Kd.lg (Kd.vI HO) (fun q hq=>⟨hq.1,by have:=hq.2.2.1;omega⟩)
   replace HO:=Kd.fZ HO (ai (Below.refl W4.heap.size W4) (.cells #[Z ab A.f0.f0,Z ab A.f0.f1,Z ab A.f1.f0,Z ab A.f1.f1] 31))
   replace hM:=hM.below (ai (Below.refl W4.heap.size W4) (.cells #[Z ab A.f0.f0,Z ab A.f0.f1,Z ab A.f1.f0,Z ab A.f1.f1] 31))
   have PO:=aD m4
   have uj:=aD m5
   have rz:=aD m6
   have qI:=aD m11
   have m13:aZ (W4.alloc (.cells #[Z ab A.f0.f0,Z ab A.f0.f1,Z ab A.f1.f0,Z ab A.f1.f1] 31)) (W4.heap.size) #[Z ab A.f0.f0,Z ab A.f0.f1,Z ab A.f1.f0,Z ab A.f1.f1] 31:=(by have h_:=bB W4 (.cells #[Z ab A.f0.f0,Z ab A.f0.f1,Z ab A.f1.f0,Z ab A.f1.f1] 31);first|exact h_|(simp only [World.size_alloc] at h_;exact h_))
   replace m4:aZ (W4.alloc (.cells #[Z ab A.f0.f0,Z ab A.f0.f1,Z ab A.f1.f0,Z ab A.f1.f1] 31)) g4 #[.pointer (some ⟨b,0,none⟩)] 104:=(aa m4 _)
   replace m5:aZ (W4.alloc (.cells #[Z ab A.f0.f0,Z ab A.f0.f1,Z ab A.f1.f0,Z ab A.f1.f1] 31)) g5 #[Z ab X.f0.f0,Z ab X.f0.f1,Z ab X.f1.f0,Z ab X.f1.f1] 31:=(aa m5 _)
   replace m6:aZ (W4.alloc (.cells #[Z ab A.f0.f0,Z ab A.f0.f1,Z ab A.f1.f0,Z ab A.f1.f1] 31)) g6 #[Z ab T] 2:=(aa m6 _)
   replace m11:aZ (W4.alloc (.cells #[Z ab A.f0.f0,Z ab A.f0.f1,Z ab A.f1.f0,Z ab A.f1.f1] 31)) g11 #[Z ab G.f0.f0,Z ab G.f0.f1,Z ab G.f1.f0,Z ab G.f1.f1] 31:=(aa m11 _)
   replace mB:Below w.heap.size w (W4.alloc (.cells #[Z ab A.f0.f0,Z ab A.f0.f1,Z ab A.f1.f0,Z ab A.f1.f1] 31)):=(ai mB _)
   have dU:w.heap.size≤W4.heap.size:=E5
   generalize jq:(W4.alloc (.cells #[Z ab A.f0.f0,Z ab A.f0.f1,Z ab A.f1.f0,Z ab A.f1.f1] 31)) = W5 at m4 m5 m6 m11 m13 mB HO hM ⊢
   clear jq
   generalize Us:W4.heap.size = g13 at m13 HO ⊢
   have uM:g4≠g13:=by omega
   have pX:g5≠g13:=by omega
   have uN:g6≠g13:=by omega
   have oF:g11≠g13:=by omega
   have akZ:g13≠g4:=uM.symm
   have jB:g13≠g5:=pX.symm
   have ak0:g13≠g6:=uN.symm
   have YQ:g13≠g11:=oF.symm
   have Kk:w.heap.size≤g13:=by omega
   clear dU PO uj rz qI
   try clear Us
   have E8:w.heap.size≤W5.heap.size:=mB.size
   have hcon:=Cw b W5
   refine ⟨trivial,(callsIn_wide.2 hcon).mono ?_⟩
   clear hcon
   rintro e _ ⟨rfl,rfl⟩
   gi_wp2_with fail
   replace HO:=Kd.fZ HO (ai (Below.refl W5.heap.size W5) (.cells #[.pointer (some ⟨b,0,none⟩)] 104))
   replace hM:=hM.below (ai (Below.refl W5.heap.size W5) (.cells #[.pointer (some ⟨b,0,none⟩)] 104))
   have PO:=aD m4
   have uj:=aD m5
   have rz:=aD m6
   have qI:=aD m11
   have Qf:=aD m13
   have mP:aZ (W5.alloc (.cells #[.pointer (some ⟨b,0,none⟩)] 104)) (W5.heap.size) #[.pointer (some ⟨b,0,none⟩)] 104:=(by have h_:=bB W5 (.cells #[.pointer (some ⟨b,0,none⟩)] 104);first|exact h_|(simp only [World.size_alloc] at h_;exact h_))
   replace m4:aZ (W5.alloc (.cells #[.pointer (some ⟨b,0,none⟩)] 104)) g4 #[.pointer (some ⟨b,0,none⟩)] 104:=(aa m4 _)
   replace m5:aZ (W5.alloc (.cells #[.pointer (some ⟨b,0,none⟩)] 104)) g5 #[Z ab X.f0.f0,Z ab X.f0.f1,Z ab X.f1.f0,Z ab X.f1.f1] 31:=(aa m5 _)
   replace m6:aZ (W5.alloc (.cells #[.pointer (some ⟨b,0,none⟩)] 104)) g6 #[Z ab T] 2:=(aa m6 _)
   replace m11:aZ (W5.alloc (.cells #[.pointer (some ⟨b,0,none⟩)] 104)) g11 #[Z ab G.f0.f0,Z ab G.f0.f1,Z ab G.f1.f0,Z ab G.f1.f1] 31:=(aa m11 _)
   replace m13:aZ (W5.alloc (.cells #[.pointer (some ⟨b,0,none⟩)] 104)) g13 #[Z ab A.f0.f0,Z ab A.f0.f1,Z ab A.f1.f0,Z ab A.f1.f1] 31:=(aa m13 _)
   replace mB:Below w.heap.size w (W5.alloc (.cells #[.pointer (some ⟨b,0,none⟩)] 104)):=(ai mB _)
   have dU:w.heap.size≤W5.heap.size:=E8
   generalize jq:(W5.alloc (.cells #[.pointer (some ⟨b,0,none⟩)] 104)) = W0 at m4 m5 m6 m11 m13 mP mB HO hM ⊢
   clear jq
   generalize hgP:W5.heap.size = gP at mP ⊢
   have Tf:g4≠gP:=by omega
   have JP:g5≠gP:=by omega
   have BZ:g6≠gP:=by omega
   have Gi:g11≠gP:=by omega
   have adF:g13≠gP:=by omega
   have agI:gP≠g4:=Tf.symm
   have Tx:gP≠g5:=JP.symm
   have PL:gP≠g6:=BZ.symm
   have Ux:gP≠g11:=Gi.symm
   have wG:gP≠g13:=adF.symm
   have hGP:w.heap.size≤gP:=by omega
   clear dU PO uj rz qI Qf
   try clear hgP
   have pI:w.heap.size≤W0.heap.size:=mB.size
   skip
   have hDs:∀ D_ ∈ Ds,D_ < W0.heap.size:=fun D_ h=>(Array.getElem?_eq_some_iff.1 (hM.2 D_ h).2).1
   have HN:Hid (g4≠g13∧g5≠g13∧g6≠g13∧g11≠g13∧gP≠g13∧g5≠g6∧g6≠g5∧g4≠g5∧g4≠g6):=Lib.hid ⟨uM,pX,uN,oF,wG,nI,iT,mJ,um⟩
   try clear mJ um L8 uM
   try clear Tf
   try clear TT nI Gh pX
   try clear JP
   try clear TE iT pW uN
   try clear BZ
   try clear adE Uv Uw oF
   try clear Gi
   try clear akZ jB ak0 YQ
   try clear adF
   try clear agI Tx PL Ux wG
   refine wpIn_rangeFunc_ownH rfl (by omega) (gf:=129) (lb:=#[.pointer (some ⟨gP,0,none⟩)]) rfl trivial (enters_of Try.func129 aT rfl)
    (encs:=fun c:RP s=>#[.agg #[Z ab c.1.f0,Z ab c.1.f1]]) (Kp:=RQ w gP b) (S:=ahm s) (Sp:=akV s) (N:=(oP s).length) (w0:=W0)
    (fun l J Jx X_ hW hJ _ hY h0=>Cx 6 (by omega) l gP b s v (aCd w gP b) (fun W h=>⟨hT.below h.1,h.2⟩) hS.n (RQ w gP b) (fun A B h hE=>⟨hE.1.trans h.1,h.2 hE.2⟩) J Jx hY X_ ⟨aJ mB hW,aZ.qm mP hW⟩ h0) RQ.trans (RQ.put pI (aD mP)) (Below.refl _ _) (fun _=>rfl)
    (fun pre W=>aZ W g4 #[.pointer (some ⟨b,0,none⟩)] 104∧aZ W g5 #[Z ab X.f0.f0,Z ab X.f0.f1,Z ab X.f1.f0,Z ab X.f1.f1] 31∧aZ W g6 #[Z ab T] 2∧aZ W g11 #[Z ab G.f0.f0,Z ab G.f0.f1,Z ab G.f1.f0,Z ab G.f1.f1] 31∧aZ W g13 #[Z ab (oD s v X G T A (pre.map Subtype.val)).f0.f0,Z ab (oD s v X G T A (pre.map Subtype.val)).f0.f1,Z ab (oD s v X G T A (pre.map Subtype.val)).f1.f0,Z ab (oD s v X G T A (pre.map Subtype.val)).f1.f1] 31∧Kd.R Qe 31 W w.heap.size (fun q=>q≠g5∧q≠g13) v_ out∧Marks W w.heap.size Ds∧Below w.heap.size w W)
    (fun c pre W=>False)
    (OwnFrom.and (dV _ _ (fun _=>_) _) (OwnFrom.and (dV _ _ (fun _=>_) _) (OwnFrom.and (dV _ _ (fun _=>_) _) (OwnFrom.and (dV _ _ (fun _=>_) _) (OwnFrom.and (dV _ _ (fun pre:List (RP s)=>#[Z ab (oD s v X G T A (pre.map Subtype.val)).f0.f0,Z ab (oD s v X G T A (pre.map Subtype.val)).f0.f1,Z ab (oD s v X G T A (pre.map Subtype.val)).f1.f0,Z ab (oD s v X G T A (pre.map Subtype.val)).f1.f1]) _) (OwnFrom.and (afT _ _ _ _ _ _ _) (OwnFrom.and (xR _ _ Ds hDs) (ownFrom_below (by omega) (by omega)))))))))
    (fun c pre X Y row hs hg hr=>hs)
    ⟨m4,m5,m6,m11,m13,HO,hM,mB⟩
    (fun c a' W=>∃ (g14:Nat) (u_:Nat→Value),a' = { tmps:=#[(u_ 0),(u_ 1),(u_ 2),(u_ 3),.pointer (some ⟨g4,0,none⟩),.pointer (some ⟨g5,0,none⟩),.pointer (some ⟨g6,0,none⟩),(u_ 7),(u_ 8),(u_ 9),(u_ 10),.pointer (some ⟨g11,0,none⟩),(u_ 12),.pointer (some ⟨g13,0,none⟩),.pointer (some ⟨g14,0,none⟩),(u_ 15),(u_ 16),(u_ 17),(u_ 18),(u_ 19),(u_ 20),(u_ 21),(u_ 22),(u_ 23),(u_ 24),(u_ 25),(u_ 26),(u_ 27),(u_ 28),(u_ 29),(u_ 30),(u_ 31),(u_ 32),(u_ 33),(u_ 34),(u_ 35),(u_ 36),(u_ 37),(u_ 38),(u_ 39),(u_ 40),(u_ 41),(u_ 42),(u_ 43),(u_ 44),(u_ 45),(u_ 46),(u_ 47),(u_ 48),(u_ 49),(u_ 50),(u_ 51),(u_ 52),(u_ 53),(u_ 54),(u_ 55),(u_ 56),(u_ 57),(u_ 58)],defers:=[] }∧aZ W g14 #[Z ab c.1.f0,Z ab c.1.f1] 33)
    (fun c a' s X Y row hs hg hr=>by obtain ⟨g14,u_,h1,h2⟩:=hs;exact ⟨g14,u_,h1,eO h2 hg hr⟩) ?assign ?body ?done ?stop
   case assign =>
    rintro l pre c X_ K ⟨m4,m5,m6,m11,m13,HO,hM,mB⟩ hK
    gi_wp2
    skip
    have hb:=ai (Below.refl X_.heap.size X_) (.cells #[Z ab c.1.f0,Z ab c.1.f1] 33)
    exact hK _ _ (eD hb) (RQ.below mB.size hb) ⟨af m4 hb,af m5 hb,af m6 hb,af m11 hb,af m13 hb,Kd.fZ HO hb,hM.below hb,aJ mB hb⟩ ⟨X_.heap.size,(fun k_=>(#[(u_ 0),(u_ 1),(u_ 2),(u_ 3),.pointer (some ⟨g4,0,none⟩),.pointer (some ⟨g5,0,none⟩),.pointer (some ⟨g6,0,none⟩),(u_ 7),(u_ 8),(u_ 9),v_,.pointer (some ⟨g11,0,none⟩),Z ab 0,.pointer (some ⟨g13,0,none⟩),.pointer (some ⟨X_.heap.size,0,none⟩),Z ab (n:Int),Z ab (k:Int),.bool true,.tuple #[.agg #[Z ab G.f0.f0,Z ab G.f0.f1,Z ab G.f1.f0,Z ab G.f1.f1],Z ab 0],.pointer (some ⟨b,0,none⟩),.agg #[Z ab X.f0.f0,Z ab X.f0.f1,Z ab X.f1.f0,Z ab X.f1.f1],Z ab T,.tuple #[.agg #[Z ab G.f0.f0,Z ab G.f0.f1,Z ab G.f1.f0,Z ab G.f1.f1],Z ab 0],.agg #[Z ab G.f0.f0,Z ab G.f0.f1,Z ab G.f1.f0,Z ab G.f1.f1],Z ab 0,Z ab 0,.bool false,(u_ 27),.pointer (some ⟨b,0,none⟩),.agg #[Z ab X.f0.f0,Z ab X.f0.f1,Z ab X.f1.f0,Z ab X.f1.f1],.agg #[Z ab G.f0.f0,Z ab G.f0.f1,Z ab G.f1.f0,Z ab G.f1.f1],Z ab T,.agg #[Z ab 0,Z ab 0],.agg #[Z ab A.f0.f0,Z ab A.f0.f1,Z ab A.f1.f0,Z ab A.f1.f1],.pointer (some ⟨b,0,none⟩),.func (.func 129) #[] #[.pointer (some ⟨gP,0,none⟩)],.agg #[Z ab c.1.f0,Z ab c.1.f1],(u_ 37),(u_ 38),(u_ 39),(u_ 40),(u_ 41),(u_ 42),(u_ 43),(u_ 44),(u_ 45),(u_ 46),(u_ 47),(u_ 48),(u_ 49),(u_ 50),(u_ 51),(u_ 52),(u_ 53),(u_ 54),(u_ 55),(u_ 56),(u_ 57),(u_ 58)]:Array Value).getD k_ undef),rfl,bB _ _⟩
   case stop =>
    rintro D_ c pre X_ hD hp h hK
    exact h.elim
   case body =>
    skip
    rintro l pre c a_ X_ hlW ⟨r,hr⟩ ⟨m4,m5,m6,m11,m13,HO,hM,mB⟩ ⟨g14,u_,rfl,m14⟩ hlen
    have hXs:W0.heap.size≤X_.heap.size:=Nat.le_trans hlW (Nat.le_of_lt (aD hr))
    clear hr
    have hN:Below X_.heap.size X_ X_:=Below.refl _ _
    have hmap:(oD s v X G T A ((pre++[c]).map Subtype.val)) = mW (oD s v X G T A (pre.map Subtype.val)) (jl s v X G T c.1.f0 c.1.f1):=by rw [List.map_append,List.map_singleton,abE]
    have HM:=Lib.hid hmap
    clear hmap
    have kEc:=fun W (h:dZ W b s v)=>kE W c.1.f0 c.1.f1 h c.2.1.1 c.2.1.2 c.2.2.1 c.2.2.2
    clear kE
    generalize jl s v X G T c.1.f0 c.1.f1 = E at*
    generalize (oD s v X G T A (pre.map Subtype.val)) = P at*
    have kH:=fun W=>Yc P E W
    generalize mW P E = Y at*
    obtain ⟨⟨c0,c1⟩,c2⟩:=c
    dsimp only at m14
    replace m4:=au m4
    replace m5:=au m5
    replace m6:=au m6
    replace m11:=au m11
    replace m13:=au m13
    replace m14:=au m14
    replace mB:=bf mB
    replace HO:=Kd.fZ HO (bf (Below.refl X_.heap.size X_))
    replace hM:=hM.below (bf (Below.refl _ X_))
    replace hN:=bf hN
    have hmx:Try.prog.follows .mixedOrders = true:=by kernel_rfl
    gi_wp2_with fail
    skip
    refine Ca (m:=9) (S:=fun w'=>w'.cell? ⟨g4,0,none⟩ = some (.pointer (some ⟨b,0,none⟩))∧w'.cell? ⟨g5,0,none⟩ = some (Z ab X.f0.f0)∧w'.cell? ⟨g5,1,none⟩ = some (Z ab X.f0.f1)∧w'.cell? ⟨g5,2,none⟩ = some (Z ab X.f1.f0)∧w'.cell? ⟨g5,3,none⟩ = some (Z ab X.f1.f1)∧w'.cell? ⟨g6,0,none⟩ = some (Z ab T)∧w'.cell? ⟨g11,0,none⟩ = some (Z ab G.f0.f0)∧w'.cell? ⟨g11,1,none⟩ = some (Z ab G.f0.f1)∧w'.cell? ⟨g11,2,none⟩ = some (Z ab G.f1.f0)∧w'.cell? ⟨g11,3,none⟩ = some (Z ab G.f1.f1)∧w'.cell? ⟨g13,0,none⟩ = some (Z ab P.f0.f0)∧w'.cell? ⟨g13,1,none⟩ = some (Z ab P.f0.f1)∧w'.cell? ⟨g13,2,none⟩ = some (Z ab P.f1.f0)∧w'.cell? ⟨g13,3,none⟩ = some (Z ab P.f1.f1)∧w'.cell? ⟨g14,0,none⟩ = some (Z ab c0)∧w'.cell? ⟨g14,1,none⟩ = some (Z ab c1)) (ds:=[8]) #[al,al,al,al,al,al,al,al,al] aT (uk zK) aT rfl rfl ⟨((ae m4 0).trans rfl),((ae m5 0).trans rfl),((ae m5 1).trans rfl),((ae m5 2).trans rfl),((ae m5 3).trans rfl),((ae m6 0).trans rfl),((ae m11 0).trans rfl),((ae m11 1).trans rfl),((ae m11 2).trans rfl),((ae m11 3).trans rfl),((ae m13 0).trans rfl),((ae m13 1).trans rfl),((ae m13 2).trans rfl),((ae m13 3).trans rfl),((ae m14 0).trans rfl),((ae m14 1).trans rfl)⟩ (fun hHeld=>?_)
    generalize hWd:World.drew _ = Wx at m4 m5 m6 m11 m13 m14 HO hM hN mB hHeld ⊢
    clear hWd
    refine iy (i:=0) (N:=some 37) aT hHeld ?_
    refine iy (i:=1) (N:=some 38) aT hHeld ?_
    refine iy (i:=2) (N:=some 39) aT hHeld ?_
    refine iy (i:=3) (N:=some 40) aT hHeld ?_
    refine iy (i:=4) (N:=some 41) aT hHeld ?_
    refine iy (i:=5) (N:=some 42) aT hHeld ?_
    refine jC (i:=6) (N:=some 43) #[ac,ac,ac,ac,ac,ac,ac,al,al] rfl rfl aT (by decide) (fun K hK=>?_)
    have eG:=kEc Wx (hT.below mB)
    refine jm Try.func101 aT rfl #[.pointer (some ⟨b,0,none⟩),.agg #[Z ab X.f0.f0,Z ab X.f0.f1,Z ab X.f1.f0,Z ab X.f1.f1],.agg #[Z ab G.f0.f0,Z ab G.f0.f1,Z ab G.f1.f0,Z ab G.f1.f1],Z ab T,.agg #[Z ab c0,Z ab c1]] (by rfl) rfl rfl ET ?_
    with_reducible refine (eG).mono ?_
    rintro e w6 ⟨rfl,hb⟩
    refine ⟨_,rfl,?_⟩
    clear eG
    replace HO:=Kd.fZ HO hb
    replace hM:=hM.below hb
    replace hN:=aJ hN hb
    replace m4:=af m4 hb
    replace m5:=af m5 hb
    replace m6:=af m6 hb
    replace m11:=af m11 hb
    replace m13:=af m13 hb
    replace m14:=af m14 hb
    replace mB:=aJ mB hb
    clear hb
    refine hK.out _ _ ⟨((ae m4 0).trans rfl),((ae m5 0).trans rfl),((ae m5 1).trans rfl),((ae m5 2).trans rfl),((ae m5 3).trans rfl),((ae m6 0).trans rfl),((ae m11 0).trans rfl),((ae m11 1).trans rfl),((ae m11 2).trans rfl),((ae m11 3).trans rfl),((ae m13 0).trans rfl),((ae m13 1).trans rfl),((ae m13 2).trans rfl),((ae m13 3).trans rfl),((ae m14 0).trans rfl),((ae m14 1).trans rfl)⟩ (fun hHeld=>?_)
    clear hK K
    refine dY aq7 ?_
    refine jC (i:=7) (N:=some 44) #[ac,ac,ac,ac,ac,ac,ac,ac,al] rfl rfl aT (by decide) (fun K hK=>?_)
    have eG:=kH w6
    refine jm Try.func119 aT rfl #[.agg #[Z ab P.f0.f0,Z ab P.f0.f1,Z ab P.f1.f0,Z ab P.f1.f1],.agg #[Z ab E.f0.f0,Z ab E.f0.f1,Z ab E.f1.f0,Z ab E.f1.f1]] (by rfl) rfl rfl ET ?_
    with_reducible refine (eG).mono ?_
    rintro e w7 ⟨rfl,hb⟩
    refine ⟨_,rfl,?_⟩
    clear eG
    replace HO:=Kd.fZ HO hb
    replace hM:=hM.below hb
    replace hN:=aJ hN hb
    replace m4:=af m4 hb
    replace m5:=af m5 hb
    replace m6:=af m6 hb
    replace m11:=af m11 hb
    replace m13:=af m13 hb
    replace m14:=af m14 hb
    replace mB:=aJ mB hb
    clear hb
    refine hK.out _ _ ⟨((ae m4 0).trans rfl),((ae m5 0).trans rfl),((ae m5 1).trans rfl),((ae m5 2).trans rfl),((ae m5 3).trans rfl),((ae m6 0).trans rfl),((ae m11 0).trans rfl),((ae m11 1).trans rfl),((ae m11 2).trans rfl),((ae m11 3).trans rfl),((ae m13 0).trans rfl),((ae m13 1).trans rfl),((ae m13 2).trans rfl),((ae m13 3).trans rfl),((ae m14 0).trans rfl),((ae m14 1).trans rfl)⟩ (fun hHeld=>?_)
    clear hK K
    refine dY (by show Act.put _ (some 44) _ = _;simp only [Act.put,List.setIfInBounds_toArray,List.set_cons_zero,List.set_cons_succ,fe,fo];rfl) ?_
    refine yt (i:=8) (N:=none) #[ac,ac,ac,ac,ac,ac,ac,ac,ac] rfl rfl aT (by decide) (fun K hK=>?_)
    have Cb:=aK m13 0
    have Fs:=aK m13 1
    have Ty:=aK m13 2
    have Tz:=aK m13 3
    have zM:=(ae m13 0).trans rfl
    have Fu:=(ae m13 1).trans rfl
    have TA:=(ae m13 2).trans rfl
    have TB:=(ae m13 3).trans rfl
    refine qp (w1:=?_) (by rfl) rfl ?_ ?_
    rotate_left
    ·go_simp
     rfl
    refine hK.out _ _ ?_
    clear hK K
    refine ma aT ?_
    skip
    obtain ⟨uM,pX,uN,oF,wG,nI,iT,mJ,um⟩:=HN.out
    refine ⟨(eD hN).trans (((((KeepsOthers.setCell _ _ _).trans (KeepsOthers.setCell _ _ _)).trans (KeepsOthers.setCell _ _ _)).trans (KeepsOthers.setCell _ _ _)).from _),(RQ.set (p:=⟨g13,3,none⟩) (RQ.set (p:=⟨g13,2,none⟩) (RQ.set (p:=⟨g13,1,none⟩) (RQ.set (p:=⟨g13,0,none⟩) (RQ.below (Nat.le_trans pI hXs) hN) Kk wG _) Kk wG _) Kk wG _) Kk wG _),?_⟩
    dsimp only
    rw [HM.out]
    exact ⟨(ah (p:=⟨g13,3,none⟩) (ah (p:=⟨g13,2,none⟩) (ah (p:=⟨g13,1,none⟩) (ah (p:=⟨g13,0,none⟩) m4 uM _) uM _) uM _) uM _),(ah (p:=⟨g13,3,none⟩) (ah (p:=⟨g13,2,none⟩) (ah (p:=⟨g13,1,none⟩) (ah (p:=⟨g13,0,none⟩) m5 pX _) pX _) pX _) pX _),(ah (p:=⟨g13,3,none⟩) (ah (p:=⟨g13,2,none⟩) (ah (p:=⟨g13,1,none⟩) (ah (p:=⟨g13,0,none⟩) m6 uN _) uN _) uN _) uN _),(ah (p:=⟨g13,3,none⟩) (ah (p:=⟨g13,2,none⟩) (ah (p:=⟨g13,1,none⟩) (ah (p:=⟨g13,0,none⟩) m11 oF _) oF _) oF _) oF _),(az (az (az (az m13 0 _ rfl) 1 _ rfl) 2 _ rfl) 3 _ rfl),(Kd.bT (p:=⟨g13,3,none⟩) (Kd.bT (p:=⟨g13,2,none⟩) (Kd.bT (p:=⟨g13,1,none⟩) (Kd.bT (p:=⟨g13,0,none⟩) HO (fun _ hk=>hk.2) _) (fun _ hk=>hk.2) _) (fun _ hk=>hk.2) _) (fun _ hk=>hk.2) _),(Marks.set (Marks.set (Marks.set (Marks.set hM m13 (i:=0) _) (az m13 0 _ rfl) (i:=1) _) (az (az m13 0 _ rfl) 1 _ rfl) (i:=2) _) (az (az (az m13 0 _ rfl) 1 _ rfl) 2 _ rfl) (i:=3) _),(Below.setCell (p:=⟨g13,3,none⟩) (Below.setCell (p:=⟨g13,2,none⟩) (Below.setCell (p:=⟨g13,1,none⟩) (Below.setCell (p:=⟨g13,0,none⟩) mB Kk _) Kk _) Kk _) Kk _)⟩
   case done =>
    rintro D_ xs X_ hD hxs ⟨m4,m5,m6,m11,m13,HO,hM,mB⟩ hK
    skip
    clear kE
    have hHx:oD s v X G T A (xs.map Subtype.val) = H:=by rw [show xs.map Subtype.val = oP s from hxs];exact HST.out.symm
    rw [hHx] at m13
    clear hHx HST hxs
    have hM2:=hM.cons (fun h=>absurd (hDs D_ h) (Nat.not_lt.2 hD)) (Nat.le_trans pI hD) hK
    clear hM hK
    have aCf:w.heap.size≤X_.heap.size:=mB.size
    dsimp only [Exit.inBlock,Exit.then]
    apply_assumption
    refine oN (wpIn_wide.2 ?_)
    skip
    have ak1:=Kd.afG HO m4 (by decide)
    have arC:=Kd.afG HO m6 (by decide)
    have hne5:some g5≠v_.ownBlock:=fun h=>(HO.1 g5 h.symm).1 rfl
    have anM:some g13≠v_.ownBlock:=fun h=>(HO.1 g13 h.symm).2 rfl
    have hneD:∀ E ∈ D_ :: Ds,some E≠v_.ownBlock:=fun E hE h=>by obtain ⟨_,hc⟩:=Kd.ac8 HO _ h.symm;rw [(hM2.2 E hE).2] at hc;cases hc
    have arD:Hid ((out.length+1)*32≤140737488355328):=Lib.hid (by have:=HQ.out.1;omega)
    have akY:=aD m5
    have arE:=aD m13
    obtain ⟨Gj,Gm,Gn,Gp⟩:=mH m13
    go_wp2_with (first|((with_reducible refine uL (b:=.append) (xs:=#[.tmp 45,.tmp 47]) rfl ?_);(try (refine jI (by rfl) ?_;dsimp only));at_builtin;go_loud (refine Kd.FR Qe (w0:=w) w.heap.size rfl (.tmp 45) (.tmp 47) 50 31 (.agg #[Z ab 0,Z ab 0,Z ab 0,Z ab 0]) 32 rfl Try.underlying50 ahn rfl (by decide) (by decide) v_ out H [Z ab H.f0.f0,Z ab H.f0.f1,Z ab H.f1.f0,Z ab H.f1.f1] (fun q=>q≠g5∧q≠g13) (fun _=>False) rfl (by first|rfl|(go_simp;done)|(go_simp;rfl)) ?aP (fun _ hk=>hk.elim) ?aF ?aO ?aB ?aS ?aL ?_);(case aP=>exact adD _ _ _ H);(case aF=>exact (fun q hq=>by omega));(case aO=>exact HO);(case aB=>exact mB);(case aS=>exact mB.size);(case aL=>exact arD.out);intro v1 w1 HO1 hB1 hgr hat))
    skip
    clear Gj Gm Gn Gp
    replace m4:=dS m4 hgr ak1
    replace m5:=dS m5 hgr hne5
    replace m6:=dS m6 hgr arC
    replace m13:=dS m13 hgr anM
    replace hM2:=Marks.grown hM2 hgr hneD
    clear hgr hat HO ak1 hne5 arC anM hneD mB arD akY arE m11
    have mB:=hB1
    clear hB1
    replace HO1:=Kd.nL HO1 m6 (by decide)
    obtain ⟨A7,c7,A8,c8,mT,_⟩:=hT.below mB
    obtain ⟨uM,pX,uN,oF,wG,nI,iT,mJ,um⟩:=HN.out
    have jB:=pX.symm
    have ak2:b≠g5:=by have h_:=hT;obtain ⟨_,_,_,_,h_,_⟩:=h_;have h2_:=(Array.getElem?_eq_some_iff.1 h_).1;omega
    have aKc:b≠g6:=by have h_:=hT;obtain ⟨_,_,_,_,h_,_⟩:=h_;have h2_:=(Array.getElem?_eq_some_iff.1 h_).1;omega
    replace m4:=au m4
    replace m5:=au m5
    replace m6:=au m6
    replace m13:=au m13
    replace mT:=au mT
    replace mB:=bf mB
    replace HO1:=Kd.fZ HO1 (bf (Below.refl w1.heap.size w1))
    replace hM2:=hM2.below (bf (Below.refl _ w1))
    refine lh (n:=10) (S:=fun w'=>w'.cell? ⟨g13,0,none⟩ = some (Z ab H.f0.f0)∧w'.cell? ⟨g13,1,none⟩ = some (Z ab H.f0.f1)∧w'.cell? ⟨g13,2,none⟩ = some (Z ab H.f1.f0)∧w'.cell? ⟨g13,3,none⟩ = some (Z ab H.f1.f1)∧w'.cell? ⟨g6,0,none⟩ = some (Z ab T)∧w'.cell? ⟨g4,0,none⟩ = some (.pointer (some ⟨b,0,none⟩))∧w'.cell? ⟨b,10,none⟩ = some (Z ab v.dive)) (ds:=[9]) #[al,al,al,al,al,al,al,al,al,al] aT rfl rfl ⟨((ae m13 0).trans rfl),((ae m13 1).trans rfl),((ae m13 2).trans rfl),((ae m13 3).trans rfl),((ae m6 0).trans rfl),((ae m4 0).trans rfl),((ae mT 10).trans rfl)⟩ (fun hHeld=>?_)
    generalize hWd:World.drew _ = Wx at m4 m5 m6 m13 mT HO1 hM2 mB hHeld ⊢
    clear hWd
    refine iy (i:=0) (N:=some 49) aT hHeld ?_
    refine iy (i:=1) (N:=some 50) aT hHeld ?_
    refine iy (i:=2) (N:=some 51) aT hHeld ?_
    refine dG (i:=3) (N:=some 52) aT ?_
    refine dG (i:=4) (N:=some 53) aT ?_
    refine dG (i:=5) (N:=some 54) aT ?_
    refine iy (i:=6) (N:=some 55) aT hHeld ?_
    refine dG (i:=7) (N:=some 56) aT ?_
    refine jC (i:=8) (N:=none) #[ac,ac,ac,ac,ac,ac,ac,ac,ac,al] rfl rfl aT (by decide) (fun K hK=>?_)
    have Cb:=aK m5 0
    have Fs:=aK m5 1
    have Ty:=aK m5 2
    have Tz:=aK m5 3
    have zM:=(ae m5 0).trans rfl
    have Fu:=(ae m5 1).trans rfl
    have TA:=(ae m5 2).trans rfl
    have TB:=(ae m5 3).trans rfl
    refine qp (w1:=?_) (by rfl) rfl ?_ ?_
    rotate_left
    ·go_simp
     rfl
    clear Cb zM Fs Fu Ty TA Tz TB
    refine hK.out _ _ ⟨((ae (ah (p:=⟨g5,3,none⟩) (ah (p:=⟨g5,2,none⟩) (ah (p:=⟨g5,1,none⟩) (ah (p:=⟨g5,0,none⟩) m13 jB _) jB _) jB _) jB _) 0).trans rfl),((ae (ah (p:=⟨g5,3,none⟩) (ah (p:=⟨g5,2,none⟩) (ah (p:=⟨g5,1,none⟩) (ah (p:=⟨g5,0,none⟩) m13 jB _) jB _) jB _) jB _) 1).trans rfl),((ae (ah (p:=⟨g5,3,none⟩) (ah (p:=⟨g5,2,none⟩) (ah (p:=⟨g5,1,none⟩) (ah (p:=⟨g5,0,none⟩) m13 jB _) jB _) jB _) jB _) 2).trans rfl),((ae (ah (p:=⟨g5,3,none⟩) (ah (p:=⟨g5,2,none⟩) (ah (p:=⟨g5,1,none⟩) (ah (p:=⟨g5,0,none⟩) m13 jB _) jB _) jB _) jB _) 3).trans rfl),((ae (ah (p:=⟨g5,3,none⟩) (ah (p:=⟨g5,2,none⟩) (ah (p:=⟨g5,1,none⟩) (ah (p:=⟨g5,0,none⟩) m6 iT _) iT _) iT _) iT _) 0).trans rfl),((ae (ah (p:=⟨g5,3,none⟩) (ah (p:=⟨g5,2,none⟩) (ah (p:=⟨g5,1,none⟩) (ah (p:=⟨g5,0,none⟩) m4 mJ _) mJ _) mJ _) mJ _) 0).trans rfl),((ae (ah (p:=⟨g5,3,none⟩) (ah (p:=⟨g5,2,none⟩) (ah (p:=⟨g5,1,none⟩) (ah (p:=⟨g5,0,none⟩) mT ak2 _) ak2 _) ak2 _) ak2 _) 10).trans rfl)⟩ (fun hHeld=>?_)
    clear hK K
    refine yt (i:=9) (N:=none) #[ac,ac,ac,ac,ac,ac,ac,ac,ac,ac] rfl rfl aT (by decide) (fun K hK=>?_)
    have FQ:=(ah (p:=⟨g5,3,none⟩) (ah (p:=⟨g5,2,none⟩) (ah (p:=⟨g5,1,none⟩) (ah (p:=⟨g5,0,none⟩) m6 iT (Z ab H.f0.f0)) iT (Z ab H.f0.f1)) iT (Z ab H.f1.f0)) iT (Z ab H.f1.f1))
    have Cb:=aK FQ 0
    have zM:=(ae FQ 0).trans rfl
    refine qp (w1:=?_) (by rfl) rfl ?_ ?_
    rotate_left
    ·go_simp
     rfl
    refine hK.out _ _ ?_
    clear hK K
    refine ma aT ?_
    skip
    refine qo ?_
    gi_wp2
    skip
    have hq:=HQ.out
    have hv:=HDV.out
    have hwr:wrap64 (T+v.dive) = T+v.dive:=by unfold wrap64;omega
    have hkw:((k+1:Nat):Int) = (k:Int)+1:=by omega
    refine ⟨⟨k+1,H,wrap64 (T+v.dive),out++[H],v1,D_ :: Ds,(fun k_=>(#[(u_ 0),(u_ 1),(u_ 2),(u_ 3),.pointer (some ⟨g4,0,none⟩),.pointer (some ⟨g5,0,none⟩),.pointer (some ⟨g6,0,none⟩),(u_ 7),(u_ 8),(u_ 9),v1,.pointer (some ⟨g11,0,none⟩),Z ab 0,.pointer (some ⟨g13,0,none⟩),(u_ 14),Z ab (n:Int),Z ab (((k+1:Nat)):Int),.bool true,.tuple #[.agg #[Z ab G.f0.f0,Z ab G.f0.f1,Z ab G.f1.f0,Z ab G.f1.f1],Z ab 0],.pointer (some ⟨b,0,none⟩),.agg #[Z ab X.f0.f0,Z ab X.f0.f1,Z ab X.f1.f0,Z ab X.f1.f1],Z ab T,.tuple #[.agg #[Z ab G.f0.f0,Z ab G.f0.f1,Z ab G.f1.f0,Z ab G.f1.f1],Z ab 0],.agg #[Z ab G.f0.f0,Z ab G.f0.f1,Z ab G.f1.f0,Z ab G.f1.f1],Z ab 0,Z ab 0,.bool false,(u_ 27),.pointer (some ⟨b,0,none⟩),.agg #[Z ab X.f0.f0,Z ab X.f0.f1,Z ab X.f1.f0,Z ab X.f1.f1],.agg #[Z ab G.f0.f0,Z ab G.f0.f1,Z ab G.f1.f0,Z ab G.f1.f1],Z ab T,.agg #[Z ab 0,Z ab 0],.agg #[Z ab A.f0.f0,Z ab A.f0.f1,Z ab A.f1.f0,Z ab A.f1.f1],.pointer (some ⟨b,0,none⟩),.func (.func 129) #[] #[.pointer (some ⟨gP,0,none⟩)],(u_ 36),(u_ 37),(u_ 38),(u_ 39),(u_ 40),(u_ 41),(u_ 42),(u_ 43),(u_ 44),v_,.agg #[Z ab H.f0.f0,Z ab H.f0.f1,Z ab H.f1.f0,Z ab H.f1.f1],.slice (some ⟨X_.heap.size,0,none⟩) 1 1,v1,.agg #[Z ab H.f0.f0,Z ab H.f0.f1,Z ab H.f1.f0,Z ab H.f1.f1],Z ab T,.pointer (some ⟨b,0,none⟩),.pointer (some ⟨b,0,none⟩),.pointer (some ⟨b,9,none⟩),.pointer (some ⟨b,10,none⟩),Z ab v.dive,Z ab (wrap64 (T+v.dive)),Z ab (((k+1:Nat)):Int),(u_ 58)]:Array Value).getD k_ undef),?fr,by omega,Lib.hid (by rw [hwr];exact HR3.out),Lib.hid ⟨by rw [List.length_append];simp;omega,RS.out,by rw [hwr];omega,by rw [hwr];omega⟩,(Marks.set (Marks.set (Marks.set (Marks.set (Marks.set hM2 m5 (i:=0) _) (az m5 0 (Z ab H.f0.f0) rfl) (i:=1) _) (az (az m5 0 (Z ab H.f0.f0) rfl) 1 (Z ab H.f0.f1) rfl) (i:=2) _) (az (az (az m5 0 (Z ab H.f0.f0) rfl) 1 (Z ab H.f0.f1) rfl) 2 (Z ab H.f1.f0) rfl) (i:=3) _) (ah (p:=⟨g5,3,none⟩) (ah (p:=⟨g5,2,none⟩) (ah (p:=⟨g5,1,none⟩) (ah (p:=⟨g5,0,none⟩) m6 iT _) iT _) iT _) iT _) (i:=0) _),(ah (p:=⟨g6,0,none⟩) (ah (p:=⟨g5,3,none⟩) (ah (p:=⟨g5,2,none⟩) (ah (p:=⟨g5,1,none⟩) (ah (p:=⟨g5,0,none⟩) m4 mJ _) mJ _) mJ _) mJ _) um _),(ah (p:=⟨g6,0,none⟩) (az (az (az (az m5 0 (Z ab H.f0.f0) rfl) 1 (Z ab H.f0.f1) rfl) 2 (Z ab H.f1.f0) rfl) 3 (Z ab H.f1.f1) rfl) nI _),(az (ah (p:=⟨g5,3,none⟩) (ah (p:=⟨g5,2,none⟩) (ah (p:=⟨g5,1,none⟩) (ah (p:=⟨g5,0,none⟩) m6 iT _) iT _) iT _) iT _) 0 (Z ab (wrap64 (T+v.dive))) rfl),Kd.lg (Kd.bT (p:=⟨g6,0,none⟩) (Kd.bT (p:=⟨g5,3,none⟩) (Kd.bT (p:=⟨g5,2,none⟩) (Kd.bT (p:=⟨g5,1,none⟩) (Kd.bT (p:=⟨g5,0,none⟩) HO1 (fun _ hk=>hk.1.1) _) (fun _ hk=>hk.1.1) _) (fun _ hk=>hk.1.1) _) (fun _ hk=>hk.1.1) _) (fun _ hk=>hk.2) _) (fun _ hk=>hk.1.1),(Below.setCell (p:=⟨g6,0,none⟩) (Below.setCell (p:=⟨g5,3,none⟩) (Below.setCell (p:=⟨g5,2,none⟩) (Below.setCell (p:=⟨g5,1,none⟩) (Below.setCell (p:=⟨g5,0,none⟩) mB Yd _) Yd _) Yd _) Yd _) RB _)⟩,by simp [intOf];omega⟩
    skip
    case fr=>first|rfl|(rw [hkw];rfl)
end Go.Proofs.Ytmhaiihjfgfaoaa.Gl
end
