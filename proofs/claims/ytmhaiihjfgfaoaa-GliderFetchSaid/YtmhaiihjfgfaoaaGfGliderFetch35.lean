import Derived.Test.YtmhaiihjfgfaoaaGfGliderFetch3
import Derived.Test.YtmhaiihjfgfaoaaGfGliderFetch34
import Derived.Test.YtmhaiihjfgfaoaaGfGliderFetch16
import Derived.Test.YtmhaiihjfgfaoaaGfGliderFetch18
import Derived.Test.YtmhaiihjfgfaoaaGfGliderFetch25
import Derived.Test.YtmhaiihjfgfaoaaGfGliderFetch26
import Derived.Test.YtmhaiihjfgfaoaaGfGliderFetch7
import Derived.Test.YtmhaiihjfgfaoaaGfGliderFetch30
import Derived.Test.YtmhaiihjfgfaoaaGfGliderFetch32
import Derived.Test.YtmhaiihjfgfaoaaGfGliderFetch29
set_option linter.unusedVariables false
set_option linter.unusedSimpArgs false
section
namespace Go.Proofs.Ytmhaiihjfgfaoaa.Gl
open Go.RowKit Go.Proofs.YtmhaiihjfgfaoaaW.PrintWords Go.Proofs.YtmhaiihjfgfaoaaW.PrintLast Go.Proofs.YtmhaiihjfgfaoaaW.PrintMore Go.Proofs.Ytmhaiihjfgfaoaa.Pr
set_option linter.unusedVariables false
def yR (s:oJ) (x:jf) (c:Int):Bool:=(decide (x.f0.f0≤(c % s.nx+1)*s.cell) && decide (c % s.nx*s.cell≤x.f0.f1)) && (decide (x.f1.f0≤(c / s.nx+1)*s.cell) && decide (c / s.nx*s.cell≤x.f1.f1))
theorem Tm {c lo hi most i:Int} (hc:0 < c) (h0:0≤lo) (h1:lo≤hi) (h2:hi≤most*c) (hi0:0≤i) (hi1:i≤most - 1):
 (min (zq c lo) (most - 1)≤i∧i≤min (hi / c) (most - 1))↔(lo≤(i+1)*c∧i*c≤hi):=by
 have a:i≤hi / c↔i*c≤hi:=Int.le_ediv_iff_mul_le hc
 have q0:0≤lo / c:=Int.ediv_nonneg h0 (by omega)
 have dm:=Int.emod_add_mul_ediv lo c
 have m0:=Int.emod_nonneg lo (show c≠0 by omega)
 have b:zq c lo≤i↔lo≤(i+1)*c:=by
  have e:(i+1)*c = i*c+c:=by rw [Int.add_mul,Int.one_mul]
  unfold zq
  by_cases hz:lo % c = 0
  ·have hq:(lo / c≤i+1)↔lo≤(i+1)*c:=by
    constructor
    ·intro h
     have:=Int.mul_le_mul_of_nonneg_right h (show 0≤c by omega)
     rw [Int.mul_comm (lo / c) c] at this
     omega
    ·intro h
     have:=Int.ediv_le_ediv hc h
     rw [Int.mul_ediv_cancel _ (show c≠0 by omega)] at this
     exact this
   by_cases hp:0 < lo / c
   ·rw [if_pos ⟨hp,hz⟩,← hq];omega
   ·rw [if_neg (fun q=>hp q.1),← hq];omega
  ·rw [if_neg (fun q=>hz q.2)]
   constructor
   ·intro h
    have h':lo / c < i+1:=by omega
    have:=(Int.ediv_lt_iff_lt_mul hc).1 h'
    omega
   ·intro h
    have h':lo < (i+1)*c:=by
     rcases Int.lt_or_eq_of_le h with h|h
     ·exact h
     ·exfalso
      apply hz
      rw [h,Int.mul_emod_left]
    have:=(Int.ediv_lt_iff_lt_mul hc).2 h'
    omega
 have last:i = most - 1→lo≤(i+1)*c:=by
  intro e
  rw [e,Int.sub_add_cancel]
  omega
 rw [← a,← b]
 constructor
 ·rintro ⟨h,k⟩
  refine ⟨?_,by omega⟩
  by_cases e:i = most - 1
  ·exact b.2 (last e)
  ·omega
 ·rintro ⟨h,k⟩
  omega
theorem K9 {s:oJ} {x:jf} (hN:BX s) (hx0:x.f0.f0≤x.f0.f1) (hx1:x.f1.f0≤x.f1.f1) (hc:jm s x = true) {c:Int}:c ∈ rz s x↔(0≤c∧c < s.nx*s.ny)∧yR s x c = true:=by
 unfold jm at hc
 simp only [Bool.and_eq_true,decide_eq_true_eq] at hc
 obtain ⟨⟨⟨c0,c1⟩,c2⟩,c3⟩:=hc
 have pc:0 < s.cell:=by have:=hN.cell;omega
 have pn:0 < s.nx:=by have:=hN.nx;omega
 have pm:0 < s.ny:=by have:=hN.ny;omega
 rw [Qr]
 unfold yR
 simp only [Bool.and_eq_true,decide_eq_true_eq]
 have f0:∀ lo k:Int,0≤lo→0 < k→0≤(min (zq s.cell lo) (k - 1)):=by
  intro lo k h hk
  have q0:0≤lo / s.cell:=Int.ediv_nonneg h (by omega)
  have:0≤zq s.cell lo:=by unfold zq;split <;> omega
  omega
 constructor
 ·rintro ⟨r,i,hr,hi,e⟩
  have hi0:0≤i:=Int.le_trans (f0 _ _ c0 pn) hi.1
  have hr0:0≤r:=Int.le_trans (f0 _ _ c1 pm) hr.1
  have hi1:i≤s.nx - 1:=by have:=hi.2;unfold uf at this;dsimp only at this;omega
  have hr1:r≤s.ny - 1:=by have:=hr.2;unfold uf at this;dsimp only at this;omega
  have em:c % s.nx = i:=by rw [e,Int.add_comm,Int.add_mul_emod_self_right,Int.emod_eq_of_lt hi0 (by omega)]
  have ed:c / s.nx = r:=by rw [e,Int.add_comm,Int.add_mul_ediv_right _ _ (by omega),Int.ediv_eq_zero_of_lt hi0 (by omega),Int.zero_add]
  have p1:0≤r*s.nx:=Int.mul_nonneg hr0 (by omega)
  have p2:r*s.nx≤(s.ny - 1)*s.nx:=Int.mul_le_mul_of_nonneg_right hr1 (by omega)
  have p3:(s.ny - 1)*s.nx = s.nx*s.ny - s.nx:=by rw [Int.sub_mul,Int.mul_comm,Int.one_mul]
  rw [em,ed]
  exact ⟨⟨by omega,by omega⟩,(Tm pc c0 hx0 c2 hi0 hi1).1 hi,(Tm pc c1 hx1 c3 hr0 hr1).1 hr⟩
 ·rintro ⟨⟨k0,k1⟩,h0,h1⟩
  have hi0:0≤c % s.nx:=Int.emod_nonneg _ (by omega)
  have hi1:c % s.nx≤s.nx - 1:=by have:=Int.emod_lt_of_pos c pn;omega
  have hr0:0≤c / s.nx:=Int.ediv_nonneg k0 (by omega)
  have hr1:c / s.nx≤s.ny - 1:=by have:=(Int.ediv_lt_iff_lt_mul (a:=c) (b:=s.ny) pn).2 (by rw [Int.mul_comm];exact k1);omega
  refine ⟨c / s.nx,c % s.nx,(Tm pc c1 hx1 c3 hr0 hr1).2 h1,(Tm pc c0 hx0 c2 hi0 hi1).2 h0,?_⟩
  have:=Int.emod_add_mul_ediv c s.nx
  rw [Int.mul_comm] at this
  omega
def Qs (s:oJ) (x:jf) (layer j:Int):Nat→Int→List jf
 |0,_=>[]
 |m+1,c=>(if yR s x c then [yZ s layer j c] else [])++Qs s x layer j m (c+1)
def Qt (s:oJ) (x:jf) (layer t u:Int):Nat→Int→List jf
 |0,_=>[]
 |q+1,j=>(if u≤j*s.slot∨(j+1)*s.slot≤t then [] else Qs s x layer j (s.nx*s.ny).toNat 0)++Qt s x layer t u q (j+1)
theorem UU {s:oJ} {x:jf} {layer j:Int} {y:jf}:∀ (m:Nat) (c:Int),y ∈ Qs s x layer j m c↔∃ k,(c≤k∧k < c+(m:Int))∧yR s x k = true∧y = yZ s layer j k
 |0,c=>by
  unfold Qs
  constructor
  ·intro h;cases h
  ·rintro ⟨k,h,_⟩;omega
 |m+1,c=>by
  unfold Qs
  rw [List.mem_append,UU m (c+1)]
  constructor
  ·rintro (h|⟨k,h,h1,h2⟩)
   ·by_cases ht:yR s x c = true
    ·rw [if_pos ht,List.mem_singleton] at h
     exact ⟨c,by omega,ht,h⟩
    ·rw [if_neg ht] at h;cases h
   ·exact ⟨k,by omega,h1,h2⟩
  ·rintro ⟨k,h,h1,h2⟩
   by_cases e:k = c
   ·subst e
    left
    rw [if_pos h1,List.mem_singleton];exact h2
   ·exact Or.inr ⟨k,by omega,h1,h2⟩
theorem ac1 {s:oJ} {x:jf} {layer t u:Int} {y:jf}:∀ (q:Nat) (j:Int),y ∈ Qt s x layer t u q j↔∃ i,(j≤i∧i < j+(q:Int))∧(i*s.slot < u∧t < (i+1)*s.slot)∧y ∈ Qs s x layer i (s.nx*s.ny).toNat 0
 |0,j=>by
  unfold Qt
  constructor
  ·intro h;cases h
  ·rintro ⟨k,h,_⟩;omega
 |q+1,j=>by
  unfold Qt
  rw [List.mem_append,ac1 q (j+1)]
  constructor
  ·rintro (h|⟨k,h,h1,h2⟩)
   ·by_cases ht:u≤j*s.slot∨(j+1)*s.slot≤t
    ·rw [if_pos ht] at h;cases h
    ·rw [if_neg ht] at h
     exact ⟨j,by omega,by omega,h⟩
   ·exact ⟨k,by omega,h1,h2⟩
  ·rintro ⟨k,h,h1,h2⟩
   by_cases e:k = j
   ·subst e
    left
    rw [if_neg (by omega)];exact h2
   ·exact Or.inr ⟨k,by omega,h1,h2⟩
theorem alg {s:oJ} {x:jf} {layer t u:Int} (hN:BX s) (hx0:x.f0.f0≤x.f0.f1) (hx1:x.f1.f0≤x.f1.f1) (hc:jm s x = true) (ht0:0≤t) (htu:t < u) (hu:u≤s.slots*s.slot):
 mh (Qt s x layer t u s.slots.toNat 0) = Q5 s x layer t u:=by
 have pd:0 < s.slot:=by have:=hN.slot;omega
 have ps:0 < s.slots:=by have:=hN.slots;omega
 have pnn:0≤s.nx*s.ny:=Int.mul_nonneg (by have:=hN.nx;omega) (by have:=hN.ny;omega)
 have pc:0 < s.cell:=by have:=hN.cell;omega
 have hm:∀ y,y ∈ Qt s x layer t u s.slots.toNat 0↔y ∈ kg s x layer (t / s.slot) ((u - 1) / s.slot+1 - t / s.slot).toNat:=by
  intro y
  rw [ac1,KZ]
  constructor
  ·rintro ⟨i,hi,⟨h1,h2⟩,hy⟩
   obtain ⟨k,hk,hk1,e⟩:=(UU _ _).1 hy
   have a1:i≤(u - 1) / s.slot:=(Int.le_ediv_iff_mul_le pd).2 (by omega)
   have a2:t / s.slot < i+1:=(Int.ediv_lt_iff_lt_mul pd).2 h2
   refine ⟨(i - t / s.slot).toNat,by omega,k,(K9 hN hx0 hx1 hc).2 ⟨by omega,hk1⟩,?_⟩
   rw [show t / s.slot+((i - t / s.slot).toNat:Int) = i from by omega];exact e
  ·rintro ⟨r,hr,c,hc',e⟩
   obtain ⟨h0,h1⟩:=(K9 hN hx0 hx1 hc).1 hc'
   have t0:0≤t / s.slot:=Int.ediv_nonneg ht0 (by omega)
   have a1:(t / s.slot+(r:Int))*s.slot≤u - 1:=(Int.le_ediv_iff_mul_le pd).1 (by omega)
   have a2:t < (t / s.slot+(r:Int)+1)*s.slot:=(Int.ediv_lt_iff_lt_mul pd).1 (by omega)
   have a3:t / s.slot+(r:Int) < s.slots:=by
    by_cases h:t / s.slot+(r:Int) < s.slots
    ·exact h
    ·exfalso
     have:=Int.mul_le_mul_of_nonneg_right (show s.slots≤t / s.slot+(r:Int) by omega) (show 0≤s.slot by omega)
     omega
   exact ⟨t / s.slot+(r:Int),by omega,⟨by omega,a2⟩,(UU _ _).2 ⟨c,by omega,h1,e⟩⟩
 obtain ⟨k,hk⟩:=aeM (s:=s) pc hx0 hx1
 have hne:kg s x layer (t / s.slot) ((u - 1) / s.slot+1 - t / s.slot).toNat≠[]:=List.ne_nil_of_mem (KZ.2 ⟨0,WE pd htu,k,hk,rfl⟩)
 have hne':Qt s x layer t u s.slots.toNat 0≠[]:=List.ne_nil_of_mem ((hm _).2 (KZ.2 ⟨0,WE pd htu,k,hk,rfl⟩))
 exact rH.antisymm (WC hne' fun a ha=>⟨a,(hm a).1 ha,rH.rfl' a⟩) (WC hne fun a ha=>⟨a,(hm a).2 ha,rH.rfl' a⟩)
theorem ac2 (s:oJ) (hN:BX s) (c:Int) (h0:0≤c) (h1:c < s.nx*s.ny):iF.f s.nx s.ny s.cell s.slot s.slots s.layers s.most s.shores s.currents c = some (c % s.nx*s.cell,(c % s.nx+1)*s.cell,c / s.nx*s.cell,(c / s.nx+1)*s.cell):=by
 have pn:0 < s.nx:=by have:=hN.nx;omega
 have hi0:0≤c % s.nx:=Int.emod_nonneg _ (by omega)
 have hi1:c % s.nx < s.nx:=Int.emod_lt_of_pos c pn
 have hr0:0≤c / s.nx:=Int.ediv_nonneg h0 (by omega)
 have hr1:c / s.nx < s.ny:=(Int.ediv_lt_iff_lt_mul (a:=c) (b:=s.ny) pn).2 (by rw [Int.mul_comm];exact h1)
 have n1:=hN.nx;have n2:=hN.ny;have n3:=hN.cell
 obtain ⟨a0,a1⟩:=iI (a:=c % s.nx) (b:=s.cell) (m:=12) (n:=65536) (by omega) (by omega) (by omega) (by omega)
 obtain ⟨b0,b1⟩:=iI (a:=c % s.nx+1) (b:=s.cell) (m:=12) (n:=65536) (by omega) (by omega) (by omega) (by omega)
 obtain ⟨d0,d1⟩:=iI (a:=c / s.nx) (b:=s.cell) (m:=12) (n:=65536) (by omega) (by omega) (by omega) (by omega)
 obtain ⟨e0,e1⟩:=iI (a:=c / s.nx+1) (b:=s.cell) (m:=12) (n:=65536) (by omega) (by omega) (by omega) (by omega)
 unfold iF.f
 rw [if_neg (by omega),Int.tmod_eq_emod_of_nonneg h0,Int.tdiv_eq_ediv_of_nonneg h0,dH (x:=c / s.nx) (by omega),dH (x:=c % s.nx+1) (by omega),dH (x:=c / s.nx+1) (by omega),dH (x:=c % s.nx*s.cell) (by omega),dH (x:=(c % s.nx+1)*s.cell) (by omega),dH (x:=c / s.nx*s.cell) (by omega),dH (x:=(c / s.nx+1)*s.cell) (by omega)]
theorem QT (x:jf) (a b c d:Int):fB.f x.f0.f0 x.f0.f1 x.f1.f0 x.f1.f1 a b c d = some ((decide (x.f0.f0≤b) && decide (a≤x.f0.f1)) && (decide (x.f1.f0≤d) && decide (c≤x.f1.f1))):=by
 unfold fB.f iH.f
 by_cases h1:x.f0.f0≤b <;> by_cases h2:a≤x.f0.f1 <;> by_cases h3:x.f1.f0≤d <;> simp [h1,h2,h3]
theorem aab (l:List jf) (y:jf):(!(l++[y]).isEmpty) = true:=by cases l <;> rfl
theorem alh (l:List jf) (y:jf):mh (l++[y]) = if (!l.isEmpty) = true then BO (mh l) y else y:=by
 unfold mh
 cases hl:l with
 |nil=>rfl
 |cons a r =>
  obtain ⟨z,e,_⟩:=Tj (l:=a :: r) (by simp)
  rw [Mc,e];rfl
theorem Qu (s:oJ) (x:jf) (layer t u j:Int) (hN:BX s) (hcu:(s.currents.length:Int) = s.slots*s.layers*(s.nx*s.ny)) (hl0:0≤layer) (hl1:layer < s.layers) (hj0:0≤j) (hj1:j < s.slots):∀ (m:Nat) (c:Int) (k:Nat) (l:List jf),0≤c→c+(m:Int) = s.nx*s.ny→
 bg.l1 (m+1+k) layer t u (!l.isEmpty) j c s.nx s.ny s.cell s.slot s.slots s.layers s.most s.shores s.currents x.f0.f0 x.f0.f1 x.f1.f0 x.f1.f1 (mh l).f0.f0 (mh l).f0.f1 (mh l).f1.f0 (mh l).f1.f1
  = bg.l0 k layer t u (!(l++Qs s x layer j m c).isEmpty) (j+1) s.nx s.ny s.cell s.slot s.slots s.layers s.most s.shores s.currents x.f0.f0 x.f0.f1 x.f1.f0 x.f1.f1 (mh (l++Qs s x layer j m c)).f0.f0 (mh (l++Qs s x layer j m c)).f0.f1 (mh (l++Qs s x layer j m c)).f1.f0 (mh (l++Qs s x layer j m c)).f1.f1
 |0,c,k,l,h0,h=>by
  have n1:=hN.nx;have n2:=hN.ny;have n5:=hN.slots
  obtain ⟨p0,p1⟩:=iI (a:=s.nx) (b:=s.ny) (m:=12) (n:=12) (by omega) (by omega) (by omega) (by omega)
  rw [show 0+1+k = k+1 from by omega,bg.l1,dH (x:=s.nx*s.ny) (by omega),if_neg (by omega),dH (x:=j+1) (by omega),Qs,List.append_nil]
 |m+1,c,k,l,h0,h=>by
  have n1:=hN.nx;have n2:=hN.ny;have n5:=hN.slots;have n6:=hN.layers
  obtain ⟨p0,p1⟩:=iI (a:=s.nx) (b:=s.ny) (m:=12) (n:=12) (by omega) (by omega) (by omega) (by omega)
  obtain ⟨i0,i1⟩:=TR (q:=j) (l:=layer) (k:=s.nx*s.ny) (c:=c) (ll:=s.slots) (kk:=s.layers) hj0 hj1 hl0 hl1 h0 (by omega)
  obtain ⟨a0,a1⟩:=iI (a:=j) (b:=s.layers) (m:=16) (n:=3) (by omega) (by omega) (by omega) (by omega)
  obtain ⟨b0,b1⟩:=iI (a:=j*s.layers+layer) (b:=s.nx) (m:=51) (n:=12) (by omega) (by omega) (by omega) (by omega)
  obtain ⟨d0,d1⟩:=iI (a:=(j*s.layers+layer)*s.nx) (b:=s.ny) (m:=612) (n:=12) (by omega) (by omega) (by omega) (by omega)
  have hidx:wrap64 (wrap64 (wrap64 (wrap64 (wrap64 (j*s.layers)+layer)*s.nx)*s.ny)+c) = (j*s.layers+layer)*(s.nx*s.ny)+c:=by
   rw [dH (x:=j*s.layers) (by omega),dH (x:=j*s.layers+layer) (by omega),dH (x:=(j*s.layers+layer)*s.nx) (by omega),dH (x:=(j*s.layers+layer)*s.nx*s.ny) (by omega),Int.mul_assoc (j*s.layers+layer) s.nx s.ny]
   rw [Int.mul_assoc] at d0 d1
   exact dH (by omega)
  rw [show m+1+1+k = (m+1+k)+1 from by omega,bg.l1,dH (x:=s.nx*s.ny) (by omega),if_pos (by omega),ac2 s hN c h0 (by omega),Option.bind_some,QT,Option.bind_some,hidx,dH (x:=c+1) (by omega)]
  have et:((decide (x.f0.f0≤(c % s.nx+1)*s.cell) && decide (c % s.nx*s.cell≤x.f0.f1)) && (decide (x.f1.f0≤(c / s.nx+1)*s.cell) && decide (c / s.nx*s.cell≤x.f1.f1))) = yR s x c:=rfl
  rw [et,Qs]
  by_cases ht:yR s x c = true
  ·rw [if_pos ht,if_pos ht,if_pos i0,if_pos (by omega),← List.append_assoc]
   have ih:=Qu s x layer t u j hN hcu hl0 hl1 hj0 hj1 m (c+1) k (l++[yZ s layer j c]) (by omega) (by omega)
   rw [← ih,aab,alh]
   by_cases he:(!l.isEmpty) = true
   ·rw [if_pos he,if_pos he]
    unfold fV.f
    rw [Option.bind_some,Option.bind_some,GR,DW,GR,DW]
    rfl
   ·rw [if_neg he,if_neg he]
    rfl
  ·rw [if_neg ht,if_neg ht,List.nil_append]
   exact Qu s x layer t u j hN hcu hl0 hl1 hj0 hj1 m (c+1) k l (by omega) (by omega)
theorem WG (s:oJ) (x:jf) (layer t u:Int) (hN:BX s) (hcu:(s.currents.length:Int) = s.slots*s.layers*(s.nx*s.ny)) (hl0:0≤layer) (hl1:layer < s.layers):∀ (q:Nat) (j:Int) (k:Nat) (l:List jf),0≤j→j+(q:Int) = s.slots→q*147+1≤k→
 bg.l0 k layer t u (!l.isEmpty) j s.nx s.ny s.cell s.slot s.slots s.layers s.most s.shores s.currents x.f0.f0 x.f0.f1 x.f1.f0 x.f1.f1 (mh l).f0.f0 (mh l).f0.f1 (mh l).f1.f0 (mh l).f1.f1
  = some ((mh (l++Qt s x layer t u q j)).f0.f0,(mh (l++Qt s x layer t u q j)).f0.f1,(mh (l++Qt s x layer t u q j)).f1.f0,(mh (l++Qt s x layer t u q j)).f1.f1)
 |0,j,k+1,l,h0,h,hk=>by
  rw [bg.l0,if_neg (by omega),Qt,List.append_nil]
 |q+1,j,k+1,l,h0,h,hk=>by
  obtain ⟨k,rfl⟩:∃ z,k = z+1:=⟨k - 1,by omega⟩
  have n1:=hN.nx;have n2:=hN.ny;have n5:=hN.slots;have n4:=hN.slot
  obtain ⟨p0,p1⟩:=iI (a:=s.nx) (b:=s.ny) (m:=12) (n:=12) (by omega) (by omega) (by omega) (by omega)
  obtain ⟨a0,a1⟩:=iI (a:=j) (b:=s.slot) (m:=16) (n:=1048576) (by omega) (by omega) (by omega) (by omega)
  obtain ⟨b0,b1⟩:=iI (a:=j+1) (b:=s.slot) (m:=17) (n:=1048576) (by omega) (by omega) (by omega) (by omega)
  rw [bg.l0,if_pos (by omega),dH (x:=j*s.slot) (by omega),dH (x:=j+1) (by omega),dH (x:=(j+1)*s.slot) (by omega),Qt]
  have ih:=fun k l=>WG s x layer t u hN hcu hl0 hl1 q (j+1) k l (by omega) (by omega)
  by_cases h1:j*s.slot ≥ u
  ·rw [if_pos h1,if_pos (Or.inl h1),bg.j1,if_pos rfl,dH (x:=j+1) (by omega),List.nil_append]
   exact ih k l (by omega)
  ·rw [if_neg h1]
   by_cases h2:(j+1)*s.slot≤t
   ·rw [decide_eq_true h2,if_pos (Or.inr h2),bg.j1,if_pos rfl,dH (x:=j+1) (by omega),List.nil_append]
    exact ih k l (by omega)
   ·rw [decide_eq_false h2,if_neg (by omega),bg.j1,if_neg (by decide),← List.append_assoc]
    obtain ⟨k2,e⟩:∃ z,k = (s.nx*s.ny).toNat+1+z:=⟨k - (s.nx*s.ny).toNat - 1,by omega⟩
    rw [e,Qu s x layer t u j hN hcu hl0 hl1 h0 (by omega) (s.nx*s.ny).toNat 0 k2 l (Int.le_refl _) (by omega)]
    exact ih k2 _ (by omega)
end Go.Proofs.Ytmhaiihjfgfaoaa.Gl
end
section
namespace Go.Proofs.Ytmhaiihjfgfaoaa.Gl
open Go.RowKit Go.Proofs.YtmhaiihjfgfaoaaW.PrintWords Go.Proofs.YtmhaiihjfgfaoaaW.PrintLast Go.Proofs.YtmhaiihjfgfaoaaW.PrintMore Go.Proofs.Ytmhaiihjfgfaoaa.Pr
theorem OW (l:List xN) (layers:Int) (hl:l.length≤64):∀ (m i K:Nat),i+m = l.length→m+1≤K→bQ.l0 K l layers (i:Int) = some (if (l.drop i).all (GY layers) then 0 else 2)
 |0,i,K+1,h,hk=>by
  rw [bQ.l0,if_neg (by omega),List.drop_eq_nil_of_le (by omega)];rfl
 |m+1,i,K+1,h,hk=>by
  have hi:i < l.length:=by omega
  have ih:=OW l layers hl m (i+1) K (by omega) (by omega)
  have e:bJ l (i:Int) = l[i]:=by
   unfold bJ
   simp [hi]
  rw [bQ.l0,if_pos (by omega),if_pos (by omega),dH (x:=(i:Int)+1) (by omega),show (i:Int)+1 = ((i+1:Nat):Int) from by omega,ih,e,List.drop_eq_getElem_cons hi,List.all_cons]
  generalize l[i] = c
  generalize (List.drop (i+1) l).all (GY layers) = b
  unfold GY ow
  by_cases h1:c.f0 < 0
  ·rw [if_pos h1,decide_eq_false (show ¬(0≤c.f0) by omega)];rfl
  rw [if_neg h1,decide_eq_true (show 0≤c.f0 by omega)]
  by_cases h2:c.f0 > 8
  ·rw [if_pos h2,decide_eq_false (show ¬(c.f0≤8) by omega)];rfl
  rw [if_neg h2,decide_eq_true (show c.f0≤8 by omega)]
  by_cases h3:c.f1 < 0
  ·rw [if_pos h3,decide_eq_false (show ¬(0≤c.f1) by omega)];rfl
  rw [if_neg h3,decide_eq_true (show 0≤c.f1 by omega)]
  by_cases h4:layers ≥ 0
  ·rw [if_pos h4,decide_eq_false (show ¬(layers < 0) by omega)]
   by_cases h5:c.f1 ≥ layers
   ·rw [if_pos h5,decide_eq_false (show ¬(c.f1 < layers) by omega)];rfl
   ·rw [if_neg h5,decide_eq_true (show c.f1 < layers by omega)];rfl
  ·rw [if_neg h4,decide_eq_true (show layers < 0 by omega)];rfl
theorem avN (l:List xN) (layers:Int) (K:Nat) (hk:66≤K):bQ.f K l layers = some (FE l layers):=by
 unfold bQ.f FE
 by_cases h:l.length > 64
 ·rw [if_pos (by omega),if_pos h]
 ·rw [if_neg (by omega),if_neg h]
  have:=OW l layers (by omega) l.length 0 K (by omega) (by omega)
  rw [List.drop_zero] at this
  exact this
end Go.Proofs.Ytmhaiihjfgfaoaa.Gl
end
section
namespace Go.Proofs.Ytmhaiihjfgfaoaa.Pr
open Go.RowKit Go.Proofs.YtmhaiihjfgfaoaaW.PrintWords Go.Proofs.YtmhaiihjfgfaoaaW.PrintLast Go.Proofs.YtmhaiihjfgfaoaaW.PrintMore
attribute [local go_sem] gp gq iA iB gu
set_option linter.unusedVariables false
set_option linter.unusedSimpArgs false
attribute [local go_sem high] awr
end Go.Proofs.Ytmhaiihjfgfaoaa.Pr
end
section
namespace Go.Proofs.Ytmhaiihjfgfaoaa.Gl
open Go.RowKit Go.Proofs.YtmhaiihjfgfaoaaW.PrintWords Go.Proofs.YtmhaiihjfgfaoaaW.PrintLast Go.Proofs.YtmhaiihjfgfaoaaW.PrintMore Go.Proofs.Ytmhaiihjfgfaoaa.Pr
set_option linter.unusedVariables false
theorem aac (k:Nat) (a:Int) (h:-4611686018427387904≤a∧a≤4611686018427387904):gW.f (k+1) a 1000 = some (a / 1000):=by
 rw [gW.f,if_neg (by omega),if_neg (by omega)]
 by_cases h0:0≤a
 ·rw [Int.tmod_eq_emod_of_nonneg h0,Int.tdiv_eq_ediv_of_nonneg h0,if_neg (by omega),dH (by omega)]
 ·obtain ⟨b,rfl⟩:∃ b,a = -b:=⟨-a,by omega⟩
  rw [Int.neg_tmod,Int.neg_tdiv,Int.tmod_eq_emod_of_nonneg (show 0≤b by omega),Int.tdiv_eq_ediv_of_nonneg (show 0≤b by omega)]
  by_cases h1:-(b % 1000) < 0
  ·rw [if_pos h1,dH (x:=-(b / 1000)) (by omega),dH (by omega)]
   congr 1;omega
  ·rw [if_neg h1,dH (by omega)]
   congr 1;omega
theorem Ja (k:Nat) (a:Int) (h:-4611686018427387904≤a∧a≤4611686018427387904):gW.f (k+1) a 1000000 = some (Jf a):=by
 unfold Jf
 rw [gW.f,if_neg (by omega),if_neg (by omega)]
 by_cases h0:0≤a
 ·rw [Int.tmod_eq_emod_of_nonneg h0,Int.tdiv_eq_ediv_of_nonneg h0,if_neg (by omega),dH (by omega)]
 ·obtain ⟨b,rfl⟩:∃ b,a = -b:=⟨-a,by omega⟩
  rw [Int.neg_tmod,Int.neg_tdiv,Int.tmod_eq_emod_of_nonneg (show 0≤b by omega),Int.tdiv_eq_ediv_of_nonneg (show 0≤b by omega)]
  by_cases h1:-(b % 1000000) < 0
  ·rw [if_pos h1,dH (x:=-(b / 1000000)) (by omega),dH (by omega)]
   congr 1;omega
  ·rw [if_neg h1,dH (by omega)]
   congr 1;omega
theorem aeT (k:Nat) (a:Int) (h:0≤a∧a≤4611686018427387904):jG.f (k+1) a 1000 = some ((a+999) / 1000):=by
 unfold jG.f
 rw [dH (x:=-a) (by omega),aac k (-a) (by omega),Option.bind_some,dH (by omega)]
 congr 1;omega
theorem VA (k:Nat) (a:Int) (h:-4611686018427387904≤a∧a≤4611686018427387904):jG.f (k+1) a 1000000 = some (upM a):=by
 unfold jG.f upM
 rw [dH (x:=-a) (by omega),Ja k (-a) (by omega),Option.bind_some]
 unfold Jf
 rw [dH (by omega)]
theorem Qv {s:oJ} {v:tF} {x:jf} (hS:BX s) (hV:Fy v) (hx:Jh x) (k:Nat):fC.f (k+1) s.nx s.ny s.cell s.slot s.slots s.layers s.most s.shores s.currents v.speed v.dive v.use.f0 v.use.f1 v.drift.f0 v.drift.f1 v.reserve x.f0.f0 x.f0.f1 x.f1.f0 x.f1.f1 = some ((fu s v x).f0.f0,(fu s v x).f0.f1,(fu s v x).f1.f0,(fu s v x).f1.f1):=by
 have n1:=hV.speed;have n2:=hV.dive;have n3:=hS.most
 obtain ⟨p0,p1⟩:=iI (a:=v.speed+s.most) (b:=v.dive) (m:=10000) (n:=131072) (by omega) (by omega) (by omega) (by omega)
 obtain ⟨x0,x1,x2,x3⟩:=hx
 unfold fC.f fu
 rw [dH (x:=v.speed+s.most) (by omega),dH (x:=(v.speed+s.most)*v.dive) (by omega),aeT k _ (by omega),Option.bind_some]
 generalize hm:((v.speed+s.most)*v.dive+999) / 1000 = m at*
 rw [dH (x:=x.f0.f0 - m) (by omega),dH (x:=x.f0.f1+m) (by omega),dH (x:=x.f1.f0 - m) (by omega),dH (x:=x.f1.f1+m) (by omega)]
theorem ali {s:oJ} (hS:BX s) (x:jf):ko.f s.nx s.ny s.cell s.slot s.slots s.layers s.most s.shores s.currents x.f0.f0 x.f0.f1 x.f1.f0 x.f1.f1 = some (jm s x):=by
 have n1:=hS.nx;have n2:=hS.ny;have n3:=hS.cell
 obtain ⟨a0,a1⟩:=iI (a:=s.nx) (b:=s.cell) (m:=12) (n:=65536) (by omega) (by omega) (by omega) (by omega)
 obtain ⟨b0,b1⟩:=iI (a:=s.ny) (b:=s.cell) (m:=12) (n:=65536) (by omega) (by omega) (by omega) (by omega)
 unfold ko.f jm
 rw [dH (x:=s.nx*s.cell) (by omega),dH (x:=s.ny*s.cell) (by omega)]
 by_cases g1:0≤x.f0.f0 <;> by_cases g2:x.f0.f1≤s.nx*s.cell <;> by_cases g3:0≤x.f1.f0 <;> simp [g1,g2,g3]
theorem aeU {s:oJ} (hS:BX s) (t u:Int):jB.f s.nx s.ny s.cell s.slot s.slots s.layers s.most s.shores s.currents t u = some (vz s t u):=by
 have n4:=hS.slot;have n5:=hS.slots
 obtain ⟨d0,d1⟩:=iI (a:=s.slots) (b:=s.slot) (m:=16) (n:=1048576) (by omega) (by omega) (by omega) (by omega)
 unfold jB.f vz
 rw [dH (x:=s.slots*s.slot) (by omega)]
 by_cases g1:0≤t <;> simp [g1]
def aeV (s:oJ) (v:tF) (x:jf) (t:Int):Bool:=jm s (fu s v x) && vz s t (t+v.dive)
theorem MG (s:oJ) (v:tF) (x:jf) (t:Int):oV s v x t = if aeV s v x t = true then 0 else 5:=rfl
theorem aad {s:oJ} {v:tF} {x:jf} {t:Int} (hS:BX s) (hV:Fy v) (hx:Jh x) (ht:0≤t∧t≤1099511627776) (k:Nat):dX.f (k+1) s.nx s.ny s.cell s.slot s.slots s.layers s.most s.shores s.currents v.speed v.dive v.use.f0 v.use.f1 v.drift.f0 v.drift.f1 v.reserve x.f0.f0 x.f0.f1 x.f1.f0 x.f1.f1 t = some (aeV s v x t):=by
 have n2:=hV.dive
 unfold dX.f aeV
 rw [Qv hS hV hx k,Option.bind_some]
 refine Eq.trans (congrArg (fun o=>Option.bind o _) (ali hS (fu s v x))) ?_
 rw [Option.bind_some,dH (x:=t+v.dive) (by omega),aeU hS,Option.bind_some]
 cases jm s (fu s v x) <;> rfl
theorem WH (s:oJ) (v:tF) (x:jf) (hS:BX s) (hV:Fy v) (hx:Jh x) (hsh:(s.shores.length:Int) = s.nx*s.ny):∀ (m i K:Nat),(i:Int)+(m:Int) = s.nx*s.ny→m+2≤K→
 bL.l0 K (i:Int) s.nx s.ny s.cell s.slot s.slots s.layers s.most s.shores s.currents v.speed v.dive v.use.f0 v.use.f1 v.drift.f0 v.drift.f1 v.reserve x.f0.f0 x.f0.f1 x.f1.f0 x.f1.f1
  = some (!(List.range m).any fun r=>GG false s.shores ((i:Int)+(r:Int)) && yR s (fu s v x) ((i:Int)+(r:Int)))
 |0,i,K+1,h,hk=>by
  have n1:=hS.nx;have n2:=hS.ny
  obtain ⟨p0,p1⟩:=iI (a:=s.nx) (b:=s.ny) (m:=12) (n:=12) (by omega) (by omega) (by omega) (by omega)
  rw [bL.l0,dH (x:=s.nx*s.ny) (by omega),if_neg (by omega)];rfl
 |m+1,i,K+1,h,hk=>by
  obtain ⟨K,rfl⟩:∃ z,K = z+1:=⟨K - 1,by omega⟩
  have n1:=hS.nx;have n2:=hS.ny
  obtain ⟨p0,p1⟩:=iI (a:=s.nx) (b:=s.ny) (m:=12) (n:=12) (by omega) (by omega) (by omega) (by omega)
  have ih:=WH s v x hS hV hx hsh m (i+1) (K+1) (by omega) (by omega)
  have e1:∀ r:Nat,((i+1:Nat):Int)+(r:Int) = (i:Int)+((r+1:Nat):Int):=fun r=>by omega
  simp only [e1] at ih
  have e2:(List.range (m+1)).any (fun r=>GG false s.shores ((i:Int)+(r:Int)) && yR s (fu s v x) ((i:Int)+(r:Int))) = ((GG false s.shores (i:Int) && yR s (fu s v x) (i:Int)) || (List.range m).any fun r=>GG false s.shores ((i:Int)+((r+1:Nat):Int)) && yR s (fu s v x) ((i:Int)+((r+1:Nat):Int))):=by
   rw [List.range_succ_eq_map,List.any_cons,List.any_map]
   simp only [Int.ofNat_zero,Int.natCast_zero,Int.add_zero]
   rfl
  rw [bL.l0,dH (x:=s.nx*s.ny) (by omega),if_pos (by omega),if_pos (by omega),if_pos (by omega),dH (x:=(i:Int)+1) (by omega),show (i:Int)+1 = ((i+1:Nat):Int) from by omega,ih,e2]
  cases hr:GG false s.shores (i:Int) with
  |false=>rw [if_neg (by decide),Bool.false_and,Bool.false_or]
  |true =>
   rw [if_pos rfl,Qv hS hV hx K,Option.bind_some,ac2 s hS (i:Int) (by omega) (by omega),Option.bind_some]
   refine Eq.trans (congrArg (fun o=>Option.bind o _) (QT (fu s v x) _ _ _ _)) ?_
   rw [Option.bind_some]
   have et:((decide ((fu s v x).f0.f0≤((i:Int) % s.nx+1)*s.cell) && decide ((i:Int) % s.nx*s.cell≤(fu s v x).f0.f1)) && (decide ((fu s v x).f1.f0≤((i:Int) / s.nx+1)*s.cell) && decide ((i:Int) / s.nx*s.cell≤(fu s v x).f1.f1))) = yR s (fu s v x) (i:Int):=rfl
   rw [et]
   cases yR s (fu s v x) (i:Int) with
   |true=>rfl
   |false=>rw [if_neg (by decide),Bool.and_false,Bool.false_or]
theorem apn {s:oJ} {v:tF} {x:jf} (hS:BX s) (hV:Fy v) (hx:xD x) (hsh:(s.shores.length:Int) = s.nx*s.ny) (hc:jm s (fu s v x) = true) (K:Nat) (hk:146≤K):
 bL.f K s.nx s.ny s.cell s.slot s.slots s.layers s.most s.shores s.currents v.speed v.dive v.use.f0 v.use.f1 v.drift.f0 v.drift.f1 v.reserve x.f0.f0 x.f0.f1 x.f1.f0 x.f1.f1 = some (decide (DU s (fu s v x) = 0)):=by
 have n1:=hS.nx;have n2:=hS.ny
 obtain ⟨p0,p1⟩:=iI (a:=s.nx) (b:=s.ny) (m:=12) (n:=12) (by omega) (by omega) (by omega) (by omega)
 obtain ⟨g0,g1⟩:=acZ (s:=s) hS hV hx
 unfold bL.f
 have:=WH s v x hS hV hx.1 hsh (s.nx*s.ny).toNat 0 K (by omega) (by omega)
 rw [show ((0:Nat):Int) = 0 from rfl] at this
 rw [this,Option.some.injEq]
 have he:(List.range (s.nx*s.ny).toNat).any (fun r=>GG false s.shores (0+(r:Int)) && yR s (fu s v x) (0+(r:Int))) = (rz s (fu s v x)).any (fun c=>GG false s.shores c):=by
  rw [Bool.eq_iff_iff,List.any_eq_true,List.any_eq_true]
  constructor
  ·rintro ⟨r,hr,h⟩
   rw [List.mem_range] at hr
   rw [Int.zero_add,Bool.and_eq_true] at h
   exact ⟨_,(K9 hS g0 g1 hc).2 ⟨by omega,h.2⟩,h.1⟩
  ·rintro ⟨c,hcm,h⟩
   obtain ⟨hb,ht⟩:=(K9 hS g0 g1 hc).1 hcm
   refine ⟨c.toNat,by rw [List.mem_range];omega,?_⟩
   rw [Int.zero_add,show ((c.toNat:Nat):Int) = c from by omega,h,ht];rfl
 rw [he]
 unfold DU
 cases (rz s (fu s v x)).any (fun c=>GG false s.shores c) <;> rfl
theorem ai8 {h:Int} (h0:0≤h) (h1:h≤8):jI.f h = some ((Cb h).1,(Cb h).2):=by
 have:h = 0∨h = 1∨h = 2∨h = 3∨h = 4∨h = 5∨h = 6∨h = 7∨h = 8:=by omega
 rcases this with rfl|rfl|rfl|rfl|rfl|rfl|rfl|rfl|rfl <;> rfl
theorem WI {a u:ky} {sp d:Int} (hd:1≤d∧d≤131072) (ha0:-1099511627776≤a.f0∧a.f0≤1099511627776) (ha1:-1099511627776≤a.f1∧a.f1≤1099511627776) (hs0:-5000000≤sp∧sp≤5000000) (hu0:-5000≤u.f0∧u.f0≤5000) (hu1:-5000≤u.f1∧u.f1≤5000) (k:Nat):
 dK.f (k+1) a.f0 a.f1 sp u.f0 u.f1 d = some ((pM d a sp u).f0,(pM d a sp u).f1):=by
 have m0:=qw (a:=sp+1000*u.f0) (b:=d) (m:=10000000) (n:=131072) (by omega) (by omega) (by omega) (by omega) (by omega)
 have m1:=qw (a:=sp+1000*u.f1) (b:=d) (m:=10000000) (n:=131072) (by omega) (by omega) (by omega) (by omega) (by omega)
 unfold dK.f pM
 rw [dH (x:=1000*u.f0) (by omega),dH (x:=1000*u.f1) (by omega),dH (x:=sp+1000*u.f0) (by omega),dH (x:=sp+1000*u.f1) (by omega),dH (x:=(sp+1000*u.f0)*d) (by omega),dH (x:=(sp+1000*u.f1)*d) (by omega),Ja k _ (by omega),Option.bind_some,VA k _ (by omega),Option.bind_some]
 have e0:wrap64 (a.f0+Jf ((sp+1000*u.f0)*d)) = a.f0+Jf ((sp+1000*u.f0)*d):=dH (by unfold Jf;omega)
 have e1:wrap64 (a.f1+upM ((sp+1000*u.f1)*d)) = a.f1+upM ((sp+1000*u.f1)*d):=dH (by unfold upM;omega)
 rw [e0,e1]
theorem apo {s:oJ} {v:tF} {x:jf} {t hd layer:Int} (hS:Va s) (hV:Fy v) (hx:xD x) (hh0:0≤hd) (hh1:hd≤8) (hl0:0≤layer) (hl1:layer < s.layers) (hm:aeV s v x t = true) (K:Nat) (hk:2400≤K):
 dG.f K s.nx s.ny s.cell s.slot s.slots s.layers s.most s.shores s.currents v.speed v.dive v.use.f0 v.use.f1 v.drift.f0 v.drift.f1 v.reserve x.f0.f0 x.f0.f1 x.f1.f0 x.f1.f1 t hd layer = some ((Dp s v x (fu s v x) t hd layer).f0.f0,(Dp s v x (fu s v x) t hd layer).f0.f1,(Dp s v x (fu s v x) t hd layer).f1.f0,(Dp s v x (fu s v x) t hd layer).f1.f1):=by
 obtain ⟨K,rfl⟩:∃ z,K = z+1:=⟨K - 1,by omega⟩
 have hre:oV s v x t = 0:=by rw [MG,if_pos hm]
 obtain ⟨hin,⟨ht0,ht1⟩,_⟩:=MX hS.n hV hx hre
 obtain ⟨g0,g1⟩:=acZ (s:=s) hS.n hV hx
 unfold aeV at hm
 rw [Bool.and_eq_true] at hm
 have n5:=hS.n.slots;have n4:=hS.n.slot;have nd:=hV.dive;have nsp:=hV.speed
 obtain ⟨d0,d1⟩:=iI (a:=s.slots) (b:=s.slot) (m:=16) (n:=1048576) (by omega) (by omega) (by omega) (by omega)
 have hat:bg.f (K+1) s.nx s.ny s.cell s.slot s.slots s.layers s.most s.shores s.currents (fu s v x).f0.f0 (fu s v x).f0.f1 (fu s v x).f1.f0 (fu s v x).f1.f1 layer t (t+v.dive) = some ((Q5 s (fu s v x) layer t (t+v.dive)).f0.f0,(Q5 s (fu s v x) layer t (t+v.dive)).f0.f1,(Q5 s (fu s v x) layer t (t+v.dive)).f1.f0,(Q5 s (fu s v x) layer t (t+v.dive)).f1.f1):=by
  rw [← alg hS.n g0 g1 hm.1 ht0 (by omega) ht1]
  unfold bg.f
  have:=WG s (fu s v x) layer t (t+v.dive) hS.n hS.cu hl0 hl1 s.slots.toNat 0 (K+1) [] (Int.le_refl _) (by omega) (by omega)
  rw [List.nil_append] at this
  exact this
 unfold dG.f
 rw [ai8 hh0 hh1,Option.bind_some,Qv hS.n hV hx.1 K,Option.bind_some,dH (x:=t+v.dive) (by omega),hat,Option.bind_some]
 have hai:=al3 hS.cb (fu s v x) layer t (t+v.dive)
 have hdi:=Rm hd
 unfold Dp
 generalize Q5 s (fu s v x) layer t (t+v.dive) = y at*
 generalize Cb hd = d at*
 obtain ⟨y0,y1,y2,y3,y8,y9⟩:=hai
 have m0:=qw (a:=d.1) (b:=v.speed) (m:=1000) (n:=5000) hdi.1.1 hdi.1.2 nsp.1 nsp.2 (by omega)
 have m1:=qw (a:=d.2) (b:=v.speed) (m:=1000) (n:=5000) hdi.2.1 hdi.2.2 nsp.1 nsp.2 (by omega)
 obtain ⟨⟨x0,x1,x2,x3⟩,_⟩:=hx
 rw [dH (x:=d.1*v.speed) (by omega),dH (x:=d.2*v.speed) (by omega)]
 refine Eq.trans (congrArg (fun o=>Option.bind o _) (WI (a:=x.f0) (u:=y.f0) nd x0 x1 (by omega) y0 y1 K)) ?_
 rw [Option.bind_some]
 refine Eq.trans (congrArg (fun o=>Option.bind o _) (WI (a:=x.f1) (u:=y.f1) nd x2 x3 (by omega) y2 y3 K)) ?_
 rw [Option.bind_some]
theorem apq {s:oJ} {v:tF} {x:jf} {t hd layer:Int} (hS:Va s) (hV:Fy v) (hx:xD x) (ht:0≤t∧t≤1099511627776) (hh0:0≤hd) (hh1:hd≤8) (hl0:0≤layer) (hl1:layer < s.layers) (K:Nat) (hk:2400≤K):
 kV.f K s.nx s.ny s.cell s.slot s.slots s.layers s.most s.shores s.currents v.speed v.dive v.use.f0 v.use.f1 v.drift.f0 v.drift.f1 v.reserve x.f0.f0 x.f0.f1 x.f1.f0 x.f1.f1 t hd layer = some ((oP s v x t hd layer).f0.f0,(oP s v x t hd layer).f0.f1,(oP s v x t hd layer).f1.f0,(oP s v x t hd layer).f1.f1,qz s v x t):=by
 obtain ⟨k,rfl⟩:∃ z,K = z+1:=⟨K - 1,by omega⟩
 unfold kV.f
 rw [aad hS.n hV hx.1 ht k,Option.bind_some]
 cases hm:aeV s v x t with
 |false =>
  have hE:qz s v x t = 5:=by unfold qz;rw [MG,hm,if_neg (show ¬(false = true) by decide),if_pos (by decide)]
  unfold oP
  rw [hE,if_neg (by decide),if_neg (by decide)];rfl
 |true =>
  have hE:qz s v x t = DU s (fu s v x):=by unfold qz;rw [MG,hm,if_pos rfl,if_neg (by decide)]
  have hc:jm s (fu s v x) = true:=by unfold aeV at hm;exact (Bool.and_eq_true_iff.1 hm).1
  rw [if_pos rfl,apn hS.n hV hx hS.sh hc (k+1) (by omega),Option.bind_some]
  unfold oP
  rw [hE]
  rcases aa3 s (fu s v x) with h|h
  ·rw [h,if_pos (by decide),if_pos rfl,apo hS hV hx hh0 hh1 hl0 hl1 hm (k+1) hk,Option.bind_some]
  ·rw [h,if_neg (by decide),if_neg (by decide)];rfl
theorem alj (x:jf) (t:Int):fM.f x.f0.f0 x.f0.f1 x.f1.f0 x.f1.f1 t = some (xS x t):=by
 unfold fM.f xS Vb ow
 rw [aaa,Option.bind_some]
 cases Mj x with
 |false=>rfl
 |true =>
  by_cases h1:t < 0
  ·rw [if_pos rfl,if_pos h1,decide_eq_false (show ¬(0≤t) by omega)];rfl
  ·rw [if_pos rfl,if_neg h1,decide_eq_true (show 0≤t by omega)]
   by_cases h2:t > 1073741824
   ·rw [if_pos h2,decide_eq_false (show ¬(t≤1073741824) by omega)];rfl
   ·rw [if_neg h2,decide_eq_true (show t≤1073741824 by omega)];rfl
theorem apr (s:oJ) (v:tF) (K:Nat) (hl:s.currents.length≤100000) (hk:s.currents.length+3≤K):gV.f K s.nx s.ny s.cell s.slot s.slots s.layers s.most s.shores s.currents v.speed v.dive v.use.f0 v.use.f1 v.drift.f0 v.drift.f1 v.reserve = some (ru s v):=by
 unfold gV.f ru
 rw [ai4 s K hl hk,Option.bind_some,Option.bind_some,ai3,Option.bind_some]
 by_cases h:BU s = 0
 ·rw [if_pos h,if_neg (fun q=>q h)]
 ·rw [if_neg h,if_pos h]
theorem OX (s:oJ) (v:tF) (t:Int) (l:List xN) (hS:Va s) (hV:Fy v) (ht:0≤t∧t≤1073741824) (hl:l.length≤64) (hall:l.all (GY s.layers) = true):∀ (m i K:Nat) (x:jf) (out:List jf),i+m = l.length→m+2401≤K→xD x→out.length = i→
 dE.l0 K t l out (i:Int) s.nx s.ny s.cell s.slot s.slots s.layers s.most s.shores s.currents v.speed v.dive v.use.f0 v.use.f1 v.drift.f0 v.drift.f1 v.reserve x.f0.f0 x.f0.f1 x.f1.f0 x.f1.f1 = some (uJ s v (l.drop i) x (t+(i:Int)*v.dive) (i:Int) out)
 |0,i,K+1,x,out,h,hk,hx,ho=>by
  obtain rfl:i = l.length:=by omega
  rw [dE.l0,if_neg (by omega),List.drop_length];rfl
 |m+1,i,K+1,x,out,h,hk,hx,ho=>by
  have hi:i < l.length:=by omega
  have e:bJ l (i:Int) = l[i]:=by
   unfold bJ
   simp [hi]
  have nd:=hV.dive
  obtain ⟨q0,q1⟩:=iI (a:=(i:Int)) (b:=v.dive) (m:=64) (n:=131072) (by omega) (by omega) (by omega) (by omega)
  obtain ⟨⟨hh0,hh1⟩,hl0,hl1⟩:=ZF hS.n.layers.1 (List.all_eq_true.1 hall l[i] (List.getElem_mem hi))
  rw [dE.l0,if_pos (by omega),if_pos (by omega),dH (x:=(i:Int)*v.dive) (by omega),dH (x:=t+(i:Int)*v.dive) (by omega),e,List.drop_eq_getElem_cons hi,uJ,apq hS hV hx ⟨by omega,by omega⟩ hh0 hh1 hl0 hl1 K (by omega),Option.bind_some]
  by_cases hE:qz s v x (t+(i:Int)*v.dive) = 0
  ·refine Eq.trans (if_pos hE) ?_
   rw [if_pos (show out.length < 4398046511104 by omega),if_neg (fun q=>q hE),dH (x:=(i:Int)+1) (by omega)]
   have ih:=OX s v t l hS hV ht hl hall m (i+1) K (oP s v x (t+(i:Int)*v.dive) l[i].f0 l[i].f1) (out++[oP s v x (t+(i:Int)*v.dive) l[i].f0 l[i].f1]) (by omega) (by omega) (TW hS hV hx hE) (by rw [List.length_append,ho];rfl)
   rw [show ((i+1:Nat):Int) = (i:Int)+1 from by omega,Int.add_mul,Int.one_mul,← Int.add_assoc] at ih
   exact ih
  ·refine Eq.trans (if_neg hE) ?_
   rw [if_pos hE]
theorem QU (v:tF) (hv:Dt v = true) (l:List xN) (hl:l.length≤64):∀ (m i K:Nat) (E:ky) (out:List ky),i+m = l.length→m+1≤K→out.length = i→(0≤E.f0∧E.f0≤E.f1∧E.f1≤1073741824)→
 bW.l0 K l out (i:Int) v.speed v.dive v.use.f0 v.use.f1 v.drift.f0 v.drift.f1 v.reserve E.f0 E.f1 = some (enI v (l.drop i) E (i:Int) out)
 |0,i,K+1,E,out,h,hk,ho,hE=>by
  rw [bW.l0,if_neg (by omega),List.drop_eq_nil_of_le (by omega)]
  unfold enI
  rw [show (l.length:Int) = (i:Int) from by omega]
 |m+1,i,K+1,E,out,h,hk,ho,hE=>by
  have hi:i < l.length:=by omega
  have e:bJ l (i:Int) = l[i]:=by
   unfold bJ
   simp [hi]
  have hus:=UH hv l[i]
  have hres:=UI hv
  have htk:eF.f v.speed v.dive v.use.f0 v.use.f1 v.drift.f0 v.drift.f1 v.reserve l[i].f0 l[i].f1 = some ((ni v l[i]).f0,(ni v l[i]).f1):=by
   unfold eF.f ni
   split <;> rfl
  rw [List.drop_eq_getElem_cons hi]
  unfold enI
  rw [bW.l0,if_pos (by omega),if_pos (by omega),e,htk,Option.bind_some]
  dsimp only
  rw [dH (x:=E.f0 - (ni v l[i]).f1) (by omega),dH (x:=E.f1 - (ni v l[i]).f0) (by omega),dH (x:=(i:Int)+1) (by omega)]
  by_cases hlow:E.f0 - (ni v l[i]).f1 < v.reserve
  ·rw [if_pos hlow,if_pos hlow]
  ·rw [if_neg hlow,if_neg hlow,if_pos (by omega)]
   exact QU v hv l hl m (i+1) K ⟨E.f0 - (ni v l[i]).f1,E.f1 - (ni v l[i]).f0⟩ _ (by omega) (by omega) (by rw [List.length_append,ho];rfl) (by dsimp only;omega)
theorem OY (v:tF) (hv:Dt v = true) (p:S81) (t:Int) (ht:0≤t∧t≤1073741824) (l:List jf) (hl:l.length≤64):∀ (m i K:Nat) (T acc:Int),i+m = l.length→m+3≤K→T = t+(i:Int)*v.dive→
 bR.l0 K t l acc (i:Int) v.speed v.dive v.use.f0 v.use.f1 v.drift.f0 v.drift.f1 v.reserve p.f0.f0.f0 p.f0.f0.f1 p.f0.f1.f0 p.f0.f1.f1 p.f1 p.f2 = some (OI v.dive p (l.drop i) T acc)
 |0,i,K+1,T,acc,h,hk,hT=>by
  rw [bR.l0,if_neg (by omega),List.drop_eq_nil_of_le (by omega)];rfl
 |m+1,i,K+1,T,acc,h,hk,hT=>by
  have hi:i < l.length:=by omega
  have e:iJ l (i:Int) = l[i]:=by
   unfold iJ
   simp [hi]
  have hd:1≤v.dive∧v.dive≤131072:=by
   unfold Dt at hv
   simp only [Bool.and_eq_true,jC] at hv
   omega
  have hm:=iI (a:=(i:Int)+1) (b:=v.dive) (m:=65) (n:=131072) (by omega) (by omega) (by omega) (by omega)
  have hT2:T+v.dive = t+((i:Int)+1)*v.dive:=by rw [hT,Int.add_mul,Int.one_mul];omega
  have ih:=fun aAf=>OY v hv p t ht l hl m (i+1) K (T+v.dive) aAf (by omega) (by omega) (by rw [hT2];rfl)
  rw [List.drop_eq_getElem_cons hi]
  unfold OI
  rw [bR.l0,if_pos (by omega),dH (x:=(i:Int)+1) (by omega),dH (x:=((i:Int)+1)*v.dive) (by omega),dH (x:=t+((i:Int)+1)*v.dive) (by omega),e,← hT2,aeS _ _ K (by omega),Option.bind_some,if_pos (show 0≤(i:Int) by omega),DW]
  by_cases h1:p.f1≤T+v.dive
  ·rw [if_pos h1]
   by_cases h2:T+v.dive≤p.f2
   ·rw [if_pos h2,if_pos ⟨h1,h2⟩]
    exact ih _
   ·rw [if_neg h2,if_neg (fun q=>h2 q.2)]
    exact ih _
  ·rw [if_neg h1,if_neg (fun q=>h1 q.1)]
   exact ih _
theorem aps (p:S81):ic.f p.f0.f0.f0 p.f0.f0.f1 p.f0.f1.f0 p.f0.f1.f1 p.f1 p.f2 = some (Gs p):=by
 unfold ic.f Gs
 rw [aaa,Option.bind_some]
 cases Mj p.f0 with
 |false=>rfl
 |true =>
  rw [if_pos rfl]
  by_cases h1:p.f1 ≥ 0
  ·rw [if_pos h1,decide_eq_true (show 0≤p.f1 from h1)]
   by_cases h2:p.f1≤p.f2
   ·rw [if_pos h2,decide_eq_true h2];rfl
   ·rw [if_neg h2,decide_eq_false h2];rfl
  ·rw [if_neg h1,decide_eq_false (show ¬(0≤p.f1) from h1)];rfl
theorem VB (s:oJ) (v:tF) (x:jf) (t:Int) (e:ky) (l:List xN) (p:S81) (K:Nat) (hl:s.currents.length≤100000) (hk:s.currents.length+3≤K) (hk':2500≤K):
 je.f K s.nx s.ny s.cell s.slot s.slots s.layers s.most s.shores s.currents v.speed v.dive v.use.f0 v.use.f1 v.drift.f0 v.drift.f1 v.reserve x.f0.f0 x.f0.f1 x.f1.f0 x.f1.f1 t e.f0 e.f1 l p.f0.f0.f0 p.f0.f0.f1 p.f0.f1.f0 p.f0.f1.f1 p.f1 p.f2 = some (OJ s v x t e l p):=by
 unfold je.f OJ
 have hub:vB s v x t = if ru s v≠0 then ru s v else xS x t:=rfl
 rw [apr s v K hl hk,Option.bind_some]
 by_cases h1:ru s v = 0
 ·rw [if_pos h1,alj,Option.bind_some]
  rw [if_neg (fun q=>q h1)] at hub
  rw [hub]
  by_cases h2:xS x t = 0
  ·rw [if_pos h2,if_neg (fun q=>q h2),EY,Option.bind_some]
   cases hb:xq e.f0 e.f1 0 1073741824 with
   |false=>rw [if_neg (by decide),if_pos rfl]
   |true =>
    rw [if_pos rfl,if_neg (by decide),avN _ _ K (by omega),Option.bind_some]
    by_cases h3:FE l s.layers = 0
    ·rw [if_pos h3,if_neg (fun q=>q h3),aps,Option.bind_some]
     cases hp:Gs p with
     |false=>rw [if_neg (by decide),if_pos rfl]
     |true =>
      rw [if_pos rfl,if_neg (by decide)]
      obtain ⟨hS,hV⟩:=M6 h1
      obtain ⟨hx,ht0,ht1⟩:=M7 h2
      obtain ⟨ak6,hall⟩:=ZE h3
      have hv:=Qk h1
      have hbb:=Jm.1 hb
      have hrun:=OX s v t l hS hV ⟨ht0,ht1⟩ ak6 hall l.length 0 K x [] (by omega) (by omega) hx rfl
      rw [show ((0:Nat):Int) = 0 from rfl,Int.zero_mul,Int.add_zero,List.drop_zero] at hrun
      have hen:=QU v hv l ak6 l.length 0 K e [] (by omega) (by omega) rfl (by omega)
      rw [List.drop_zero,show ((0:Nat):Int) = 0 from rfl] at hen
      have hrl:=aeG s v l x t 0 []
      simp only [List.length_nil,Nat.zero_add] at hrl
      have hfe:=OY v hv p t ⟨ht0,ht1⟩ (uJ s v l x t 0 []).1 (by omega) (uJ s v l x t 0 []).1.length 0 K t 0 (by omega) (by omega) (by simp)
      rw [List.drop_zero] at hfe
      unfold iT.f dE.f
      rw [hrun,Option.bind_some]
      by_cases h4:(uJ s v l x t 0 []).2.2 = 0
      ·rw [if_pos h4,if_neg (fun q=>q h4)]
       unfold bW.f
       refine Eq.trans (congrArg (fun o=>Option.bind (Option.bind o _) _) hen) ?_
       rw [Option.bind_some]
       by_cases h5:(enI v l e 0 []).2.2 = 0
       ·refine Eq.trans ?_ (congrArg some (if_neg (fun q=>q h5))).symm
        refine Eq.trans (congrArg (fun o=>Option.bind o _) (if_pos h5)) ?_
        unfold bR.f
        refine Eq.trans (congrArg (fun o=>Option.bind (Option.bind o _) _) hfe) ?_
        rw [Option.bind_some]
        by_cases h6:OI v.dive p (uJ s v l x t 0 []).1 t 0 = 2
        ·refine Eq.trans ?_ (congrArg some (if_neg (fun q=>q h6))).symm
         exact congrArg (fun o=>Option.bind o _) (if_pos h6)
        ·refine Eq.trans ?_ (congrArg some (if_pos h6)).symm
         exact congrArg (fun o=>Option.bind o _) (if_neg h6)
       ·refine Eq.trans ?_ (congrArg some (if_pos h5)).symm
        exact congrArg (fun o=>Option.bind o _) (if_neg h5)
      ·rw [if_neg h4,if_pos h4,Option.bind_some]
    ·rw [if_neg h3,if_pos h3];try rfl
  ·rw [if_neg h2,if_pos h2];try rfl
 ·rw [if_neg h1]
  rw [if_pos h1] at hub
  rw [hub,if_pos h1];try rfl
end Go.Proofs.Ytmhaiihjfgfaoaa.Gl
end
