import Derived.Test.YtmhaiihjfgfaoaaGhGliderHolds3
import Derived.Test.YtmhaiihjfgfaoaaGhGliderHolds28
import Derived.Test.YtmhaiihjfgfaoaaGhGliderHolds15
import Derived.Test.YtmhaiihjfgfaoaaGhGliderHolds17
import Derived.Test.YtmhaiihjfgfaoaaGhGliderHolds23
import Derived.Test.YtmhaiihjfgfaoaaGhGliderHolds6
import Derived.Test.YtmhaiihjfgfaoaaGhGliderHolds26
import Derived.Test.YtmhaiihjfgfaoaaGhGliderHolds25
import Derived.Test.YtmhaiihjfgfaoaaGhGliderHolds27
section
namespace Go.Proofs.Ytmhaiihjfgfaoaa.Gl
open Go.RowKit Go.Proofs.YtmhaiihjfgfaoaaW.PrintWords Go.Proofs.YtmhaiihjfgfaoaaW.PrintLast Go.Proofs.YtmhaiihjfgfaoaaW.PrintMore Go.Proofs.Ytmhaiihjfgfaoaa.Pr
set_option linter.unusedVariables false
def uf (s:lF) (x:gz) (c:Int):Bool:=(decide (x.f0.f0≤(c % s.nx+1)*s.cell) && decide (c % s.nx*s.cell≤x.f0.f1)) && (decide (x.f1.f0≤(c / s.nx+1)*s.cell) && decide (c / s.nx*s.cell≤x.f1.f1))
theorem Og {c lo hi most i:Int} (hc:0 < c) (h0:0≤lo) (h1:lo≤hi) (h2:hi≤most*c) (hi0:0≤i) (hi1:i≤most - 1):
 (min (uQ c lo) (most - 1)≤i∧i≤min (hi / c) (most - 1))↔(lo≤(i+1)*c∧i*c≤hi):=by
 have a:i≤hi / c↔i*c≤hi:=Int.le_ediv_iff_mul_le hc
 have q0:0≤lo / c:=Int.ediv_nonneg h0 (by omega)
 have dm:=Int.emod_add_mul_ediv lo c
 have m0:=Int.emod_nonneg lo (show c≠0 by omega)
 have b:uQ c lo≤i↔lo≤(i+1)*c:=by
  have e:(i+1)*c = i*c+c:=by rw [Int.add_mul,Int.one_mul]
  unfold uQ
  by_cases hz:lo % c = 0
  ·have hq:(lo / c≤i+1)↔lo≤(i+1)*c:=by
    constructor
    ·intro h
     have:=Int.mul_le_mul_of_nonneg_right h (show 0≤c by omega)
     rw [Int.mul_comm (lo / c) c] at this
     omega
    ·intro h
     have:=Int.ediv_le_ediv hc h
     rw [Int.mul_ediv_cancel _ (show c≠0 by omega)] at this
     exact this
   by_cases hp:0 < lo / c
   ·rw [if_pos ⟨hp,hz⟩,← hq];omega
   ·rw [if_neg (fun q=>hp q.1),← hq];omega
  ·rw [if_neg (fun q=>hz q.2)]
   constructor
   ·intro h
    have h':lo / c < i+1:=by omega
    have:=(Int.ediv_lt_iff_lt_mul hc).1 h'
    omega
   ·intro h
    have h':lo < (i+1)*c:=by
     rcases Int.lt_or_eq_of_le h with h|h
     ·exact h
     ·exfalso
      apply hz
      rw [h,Int.mul_emod_left]
    have:=(Int.ediv_lt_iff_lt_mul hc).2 h'
    omega
 have last:i = most - 1→lo≤(i+1)*c:=by
  intro e
  rw [e,Int.sub_add_cancel]
  omega
 rw [← a,← b]
 constructor
 ·rintro ⟨h,k⟩
  refine ⟨?_,by omega⟩
  by_cases e:i = most - 1
  ·exact b.2 (last e)
  ·omega
 ·rintro ⟨h,k⟩
  omega
theorem Gi {s:lF} {x:gz} (hN:xz s) (hx0:x.f0.f0≤x.f0.f1) (hx1:x.f1.f0≤x.f1.f1) (hc:gN s x = true) {c:Int}:c ∈ nW s x↔(0≤c∧c < s.nx*s.ny)∧uf s x c = true:=by
 unfold gN at hc
 simp only [Bool.and_eq_true,decide_eq_true_eq] at hc
 obtain ⟨⟨⟨c0,c1⟩,c2⟩,c3⟩:=hc
 have pc:0 < s.cell:=by have:=hN.cell;omega
 have pn:0 < s.nx:=by have:=hN.nx;omega
 have pm:0 < s.ny:=by have:=hN.ny;omega
 rw [LA]
 unfold uf
 simp only [Bool.and_eq_true,decide_eq_true_eq]
 have f0:∀ lo k:Int,0≤lo→0 < k→0≤(min (uQ s.cell lo) (k - 1)):=by
  intro lo k h hk
  have q0:0≤lo / s.cell:=Int.ediv_nonneg h (by omega)
  have:0≤uQ s.cell lo:=by unfold uQ;split <;> omega
  omega
 constructor
 ·rintro ⟨r,i,hr,hi,e⟩
  have hi0:0≤i:=Int.le_trans (f0 _ _ c0 pn) hi.1
  have hr0:0≤r:=Int.le_trans (f0 _ _ c1 pm) hr.1
  have hi1:i≤s.nx - 1:=by have:=hi.2;unfold pX at this;dsimp only at this;omega
  have hr1:r≤s.ny - 1:=by have:=hr.2;unfold pX at this;dsimp only at this;omega
  have em:c % s.nx = i:=by rw [e,Int.add_comm,Int.add_mul_emod_self_right,Int.emod_eq_of_lt hi0 (by omega)]
  have ed:c / s.nx = r:=by rw [e,Int.add_comm,Int.add_mul_ediv_right _ _ (by omega),Int.ediv_eq_zero_of_lt hi0 (by omega),Int.zero_add]
  have p1:0≤r*s.nx:=Int.mul_nonneg hr0 (by omega)
  have p2:r*s.nx≤(s.ny - 1)*s.nx:=Int.mul_le_mul_of_nonneg_right hr1 (by omega)
  have p3:(s.ny - 1)*s.nx = s.nx*s.ny - s.nx:=by rw [Int.sub_mul,Int.mul_comm,Int.one_mul]
  rw [em,ed]
  exact ⟨⟨by omega,by omega⟩,(Og pc c0 hx0 c2 hi0 hi1).1 hi,(Og pc c1 hx1 c3 hr0 hr1).1 hr⟩
 ·rintro ⟨⟨k0,k1⟩,h0,h1⟩
  have hi0:0≤c % s.nx:=Int.emod_nonneg _ (by omega)
  have hi1:c % s.nx≤s.nx - 1:=by have:=Int.emod_lt_of_pos c pn;omega
  have hr0:0≤c / s.nx:=Int.ediv_nonneg k0 (by omega)
  have hr1:c / s.nx≤s.ny - 1:=by have:=(Int.ediv_lt_iff_lt_mul (a:=c) (b:=s.ny) pn).2 (by rw [Int.mul_comm];exact k1);omega
  refine ⟨c / s.nx,c % s.nx,(Og pc c1 hx1 c3 hr0 hr1).2 h1,(Og pc c0 hx0 c2 hi0 hi1).2 h0,?_⟩
  have:=Int.emod_add_mul_ediv c s.nx
  rw [Int.mul_comm] at this
  omega
def LC (s:lF) (x:gz) (layer j:Int):Nat→Int→List gz
 |0,_=>[]
 |m+1,c=>(if uf s x c then [rQ s layer j c] else [])++LC s x layer j m (c+1)
def LD (s:lF) (x:gz) (layer t u:Int):Nat→Int→List gz
 |0,_=>[]
 |q+1,j=>(if u≤j*s.slot∨(j+1)*s.slot≤t then [] else LC s x layer j (s.nx*s.ny).toNat 0)++LD s x layer t u q (j+1)
theorem PD {s:lF} {x:gz} {layer j:Int} {y:gz}:∀ (m:Nat) (c:Int),y ∈ LC s x layer j m c↔∃ k,(c≤k∧k < c+(m:Int))∧uf s x k = true∧y = rQ s layer j k
 |0,c=>by
  unfold LC
  constructor
  ·intro h;cases h
  ·rintro ⟨k,h,_⟩;omega
 |m+1,c=>by
  unfold LC
  rw [List.mem_append,PD m (c+1)]
  constructor
  ·rintro (h|⟨k,h,h1,h2⟩)
   ·by_cases ht:uf s x c = true
    ·rw [if_pos ht,List.mem_singleton] at h
     exact ⟨c,by omega,ht,h⟩
    ·rw [if_neg ht] at h;cases h
   ·exact ⟨k,by omega,h1,h2⟩
  ·rintro ⟨k,h,h1,h2⟩
   by_cases e:k = c
   ·subst e
    left
    rw [if_pos h1,List.mem_singleton];exact h2
   ·exact Or.inr ⟨k,by omega,h1,h2⟩
theorem VU {s:lF} {x:gz} {layer t u:Int} {y:gz}:∀ (q:Nat) (j:Int),y ∈ LD s x layer t u q j↔∃ i,(j≤i∧i < j+(q:Int))∧(i*s.slot < u∧t < (i+1)*s.slot)∧y ∈ LC s x layer i (s.nx*s.ny).toNat 0
 |0,j=>by
  unfold LD
  constructor
  ·intro h;cases h
  ·rintro ⟨k,h,_⟩;omega
 |q+1,j=>by
  unfold LD
  rw [List.mem_append,VU q (j+1)]
  constructor
  ·rintro (h|⟨k,h,h1,h2⟩)
   ·by_cases ht:u≤j*s.slot∨(j+1)*s.slot≤t
    ·rw [if_pos ht] at h;cases h
    ·rw [if_neg ht] at h
     exact ⟨j,by omega,by omega,h⟩
   ·exact ⟨k,by omega,h1,h2⟩
  ·rintro ⟨k,h,h1,h2⟩
   by_cases e:k = j
   ·subst e
    left
    rw [if_neg (by omega)];exact h2
   ·exact Or.inr ⟨k,by omega,h1,h2⟩
theorem acF {s:lF} {x:gz} {layer t u:Int} (hN:xz s) (hx0:x.f0.f0≤x.f0.f1) (hx1:x.f1.f0≤x.f1.f1) (hc:gN s x = true) (ht0:0≤t) (htu:t < u) (hu:u≤s.slots*s.slot):
 jT (LD s x layer t u s.slots.toNat 0) = z8 s x layer t u:=by
 have pd:0 < s.slot:=by have:=hN.slot;omega
 have ps:0 < s.slots:=by have:=hN.slots;omega
 have pnn:0≤s.nx*s.ny:=Int.mul_nonneg (by have:=hN.nx;omega) (by have:=hN.ny;omega)
 have pc:0 < s.cell:=by have:=hN.cell;omega
 have hm:∀ y,y ∈ LD s x layer t u s.slots.toNat 0↔y ∈ iP s x layer (t / s.slot) ((u - 1) / s.slot+1 - t / s.slot).toNat:=by
  intro y
  rw [VU,Bd]
  constructor
  ·rintro ⟨i,hi,⟨h1,h2⟩,hy⟩
   obtain ⟨k,hk,hk1,e⟩:=(PD _ _).1 hy
   have a1:i≤(u - 1) / s.slot:=(Int.le_ediv_iff_mul_le pd).2 (by omega)
   have a2:t / s.slot < i+1:=(Int.ediv_lt_iff_lt_mul pd).2 h2
   refine ⟨(i - t / s.slot).toNat,by omega,k,(Gi hN hx0 hx1 hc).2 ⟨by omega,hk1⟩,?_⟩
   rw [show t / s.slot+((i - t / s.slot).toNat:Int) = i from by omega];exact e
  ·rintro ⟨r,hr,c,hc',e⟩
   obtain ⟨h0,h1⟩:=(Gi hN hx0 hx1 hc).1 hc'
   have t0:0≤t / s.slot:=Int.ediv_nonneg ht0 (by omega)
   have a1:(t / s.slot+(r:Int))*s.slot≤u - 1:=(Int.le_ediv_iff_mul_le pd).1 (by omega)
   have a2:t < (t / s.slot+(r:Int)+1)*s.slot:=(Int.ediv_lt_iff_lt_mul pd).1 (by omega)
   have a3:t / s.slot+(r:Int) < s.slots:=by
    by_cases h:t / s.slot+(r:Int) < s.slots
    ·exact h
    ·exfalso
     have:=Int.mul_le_mul_of_nonneg_right (show s.slots≤t / s.slot+(r:Int) by omega) (show 0≤s.slot by omega)
     omega
   exact ⟨t / s.slot+(r:Int),by omega,⟨by omega,a2⟩,(PD _ _).2 ⟨c,by omega,h1,e⟩⟩
 obtain ⟨k,hk⟩:=XB (s:=s) pc hx0 hx1
 have hne:iP s x layer (t / s.slot) ((u - 1) / s.slot+1 - t / s.slot).toNat≠[]:=List.ne_nil_of_mem (Bd.2 ⟨0,QZ pd htu,k,hk,rfl⟩)
 have hne':LD s x layer t u s.slots.toNat 0≠[]:=List.ne_nil_of_mem ((hm _).2 (Bd.2 ⟨0,QZ pd htu,k,hk,rfl⟩))
 exact oI.antisymm (QY hne' fun a ha=>⟨a,(hm a).1 ha,oI.rfl' a⟩) (QY hne fun a ha=>⟨a,(hm a).2 ha,oI.rfl' a⟩)
theorem VV (s:lF) (hN:xz s) (c:Int) (h0:0≤c) (h1:c < s.nx*s.ny):fO.f s.nx s.ny s.cell s.slot s.slots s.layers s.most s.shores s.currents c = some (c % s.nx*s.cell,(c % s.nx+1)*s.cell,c / s.nx*s.cell,(c / s.nx+1)*s.cell):=by
 have pn:0 < s.nx:=by have:=hN.nx;omega
 have hi0:0≤c % s.nx:=Int.emod_nonneg _ (by omega)
 have hi1:c % s.nx < s.nx:=Int.emod_lt_of_pos c pn
 have hr0:0≤c / s.nx:=Int.ediv_nonneg h0 (by omega)
 have hr1:c / s.nx < s.ny:=(Int.ediv_lt_iff_lt_mul (a:=c) (b:=s.ny) pn).2 (by rw [Int.mul_comm];exact h1)
 have n1:=hN.nx;have n2:=hN.ny;have n3:=hN.cell
 obtain ⟨a0,a1⟩:=fI (a:=c % s.nx) (b:=s.cell) (m:=12) (n:=65536) (by omega) (by omega) (by omega) (by omega)
 obtain ⟨b0,b1⟩:=fI (a:=c % s.nx+1) (b:=s.cell) (m:=12) (n:=65536) (by omega) (by omega) (by omega) (by omega)
 obtain ⟨d0,d1⟩:=fI (a:=c / s.nx) (b:=s.cell) (m:=12) (n:=65536) (by omega) (by omega) (by omega) (by omega)
 obtain ⟨e0,e1⟩:=fI (a:=c / s.nx+1) (b:=s.cell) (m:=12) (n:=65536) (by omega) (by omega) (by omega) (by omega)
 unfold fO.f
 rw [if_neg (by omega),Int.tmod_eq_emod_of_nonneg h0,Int.tdiv_eq_ediv_of_nonneg h0,bX (x:=c / s.nx) (by omega),bX (x:=c % s.nx+1) (by omega),bX (x:=c / s.nx+1) (by omega),bX (x:=c % s.nx*s.cell) (by omega),bX (x:=(c % s.nx+1)*s.cell) (by omega),bX (x:=c / s.nx*s.cell) (by omega),bX (x:=(c / s.nx+1)*s.cell) (by omega)]
theorem Ma (x:gz) (a b c d:Int):eu.f x.f0.f0 x.f0.f1 x.f1.f0 x.f1.f1 a b c d = some ((decide (x.f0.f0≤b) && decide (a≤x.f0.f1)) && (decide (x.f1.f0≤d) && decide (c≤x.f1.f1))):=by
 unfold eu.f fQ.f
 by_cases h1:x.f0.f0≤b <;> by_cases h2:a≤x.f0.f1 <;> by_cases h3:x.f1.f0≤d <;> simp [h1,h2,h3]
theorem TQ (l:List gz) (y:gz):(!(l++[y]).isEmpty) = true:=by cases l <;> rfl
theorem acG (l:List gz) (y:gz):jT (l++[y]) = if (!l.isEmpty) = true then vW (jT l) y else y:=by
 unfold jT
 cases hl:l with
 |nil=>rfl
 |cons a r =>
  obtain ⟨z,e,_⟩:=Ko (l:=a :: r) (by simp)
  rw [GM,e];rfl
theorem LF (s:lF) (x:gz) (layer t u j:Int) (hN:xz s) (hcu:(s.currents.length:Int) = s.slots*s.layers*(s.nx*s.ny)) (hl0:0≤layer) (hl1:layer < s.layers) (hj0:0≤j) (hj1:j < s.slots):∀ (m:Nat) (c:Int) (k:Nat) (l:List gz),0≤c→c+(m:Int) = s.nx*s.ny→
 aT.l1 (m+1+k) layer t u (!l.isEmpty) j c s.nx s.ny s.cell s.slot s.slots s.layers s.most s.shores s.currents x.f0.f0 x.f0.f1 x.f1.f0 x.f1.f1 (jT l).f0.f0 (jT l).f0.f1 (jT l).f1.f0 (jT l).f1.f1
  = aT.l0 k layer t u (!(l++LC s x layer j m c).isEmpty) (j+1) s.nx s.ny s.cell s.slot s.slots s.layers s.most s.shores s.currents x.f0.f0 x.f0.f1 x.f1.f0 x.f1.f1 (jT (l++LC s x layer j m c)).f0.f0 (jT (l++LC s x layer j m c)).f0.f1 (jT (l++LC s x layer j m c)).f1.f0 (jT (l++LC s x layer j m c)).f1.f1
 |0,c,k,l,h0,h=>by
  have n1:=hN.nx;have n2:=hN.ny;have n5:=hN.slots
  obtain ⟨p0,p1⟩:=fI (a:=s.nx) (b:=s.ny) (m:=12) (n:=12) (by omega) (by omega) (by omega) (by omega)
  rw [show 0+1+k = k+1 from by omega,aT.l1,bX (x:=s.nx*s.ny) (by omega),if_neg (by omega),bX (x:=j+1) (by omega),LC,List.append_nil]
 |m+1,c,k,l,h0,h=>by
  have n1:=hN.nx;have n2:=hN.ny;have n5:=hN.slots;have n6:=hN.layers
  obtain ⟨p0,p1⟩:=fI (a:=s.nx) (b:=s.ny) (m:=12) (n:=12) (by omega) (by omega) (by omega) (by omega)
  obtain ⟨i0,i1⟩:=OL (q:=j) (l:=layer) (k:=s.nx*s.ny) (c:=c) (ll:=s.slots) (kk:=s.layers) hj0 hj1 hl0 hl1 h0 (by omega)
  obtain ⟨a0,a1⟩:=fI (a:=j) (b:=s.layers) (m:=16) (n:=3) (by omega) (by omega) (by omega) (by omega)
  obtain ⟨b0,b1⟩:=fI (a:=j*s.layers+layer) (b:=s.nx) (m:=51) (n:=12) (by omega) (by omega) (by omega) (by omega)
  obtain ⟨d0,d1⟩:=fI (a:=(j*s.layers+layer)*s.nx) (b:=s.ny) (m:=612) (n:=12) (by omega) (by omega) (by omega) (by omega)
  have hidx:wrap64 (wrap64 (wrap64 (wrap64 (wrap64 (j*s.layers)+layer)*s.nx)*s.ny)+c) = (j*s.layers+layer)*(s.nx*s.ny)+c:=by
   rw [bX (x:=j*s.layers) (by omega),bX (x:=j*s.layers+layer) (by omega),bX (x:=(j*s.layers+layer)*s.nx) (by omega),bX (x:=(j*s.layers+layer)*s.nx*s.ny) (by omega),Int.mul_assoc (j*s.layers+layer) s.nx s.ny]
   rw [Int.mul_assoc] at d0 d1
   exact bX (by omega)
  rw [show m+1+1+k = (m+1+k)+1 from by omega,aT.l1,bX (x:=s.nx*s.ny) (by omega),if_pos (by omega),VV s hN c h0 (by omega),Option.bind_some,Ma,Option.bind_some,hidx,bX (x:=c+1) (by omega)]
  have et:((decide (x.f0.f0≤(c % s.nx+1)*s.cell) && decide (c % s.nx*s.cell≤x.f0.f1)) && (decide (x.f1.f0≤(c / s.nx+1)*s.cell) && decide (c / s.nx*s.cell≤x.f1.f1))) = uf s x c:=rfl
  rw [et,LC]
  by_cases ht:uf s x c = true
  ·rw [if_pos ht,if_pos ht,if_pos i0,if_pos (by omega),← List.append_assoc]
   have ih:=LF s x layer t u j hN hcu hl0 hl1 hj0 hj1 m (c+1) k (l++[rQ s layer j c]) (by omega) (by omega)
   rw [← ih,TQ,acG]
   by_cases he:(!l.isEmpty) = true
   ·rw [if_pos he,if_pos he]
    unfold eT.f
    rw [Option.bind_some,Option.bind_some,Io,Ip,Io,Ip]
    rfl
   ·rw [if_neg he,if_neg he]
    rfl
  ·rw [if_neg ht,if_neg ht,List.nil_append]
   exact LF s x layer t u j hN hcu hl0 hl1 hj0 hj1 m (c+1) k l (by omega) (by omega)
theorem Q3 (s:lF) (x:gz) (layer t u:Int) (hN:xz s) (hcu:(s.currents.length:Int) = s.slots*s.layers*(s.nx*s.ny)) (hl0:0≤layer) (hl1:layer < s.layers):∀ (q:Nat) (j:Int) (k:Nat) (l:List gz),0≤j→j+(q:Int) = s.slots→q*147+1≤k→
 aT.l0 k layer t u (!l.isEmpty) j s.nx s.ny s.cell s.slot s.slots s.layers s.most s.shores s.currents x.f0.f0 x.f0.f1 x.f1.f0 x.f1.f1 (jT l).f0.f0 (jT l).f0.f1 (jT l).f1.f0 (jT l).f1.f1
  = some ((jT (l++LD s x layer t u q j)).f0.f0,(jT (l++LD s x layer t u q j)).f0.f1,(jT (l++LD s x layer t u q j)).f1.f0,(jT (l++LD s x layer t u q j)).f1.f1)
 |0,j,k+1,l,h0,h,hk=>by
  rw [aT.l0,if_neg (by omega),LD,List.append_nil]
 |q+1,j,k+1,l,h0,h,hk=>by
  obtain ⟨k,rfl⟩:∃ z,k = z+1:=⟨k - 1,by omega⟩
  have n1:=hN.nx;have n2:=hN.ny;have n5:=hN.slots;have n4:=hN.slot
  obtain ⟨p0,p1⟩:=fI (a:=s.nx) (b:=s.ny) (m:=12) (n:=12) (by omega) (by omega) (by omega) (by omega)
  obtain ⟨a0,a1⟩:=fI (a:=j) (b:=s.slot) (m:=16) (n:=1048576) (by omega) (by omega) (by omega) (by omega)
  obtain ⟨b0,b1⟩:=fI (a:=j+1) (b:=s.slot) (m:=17) (n:=1048576) (by omega) (by omega) (by omega) (by omega)
  rw [aT.l0,if_pos (by omega),bX (x:=j*s.slot) (by omega),bX (x:=j+1) (by omega),bX (x:=(j+1)*s.slot) (by omega),LD]
  have ih:=fun k l=>Q3 s x layer t u hN hcu hl0 hl1 q (j+1) k l (by omega) (by omega)
  by_cases h1:j*s.slot ≥ u
  ·rw [if_pos h1,if_pos (Or.inl h1),aT.j1,if_pos rfl,bX (x:=j+1) (by omega),List.nil_append]
   exact ih k l (by omega)
  ·rw [if_neg h1]
   by_cases h2:(j+1)*s.slot≤t
   ·rw [decide_eq_true h2,if_pos (Or.inr h2),aT.j1,if_pos rfl,bX (x:=j+1) (by omega),List.nil_append]
    exact ih k l (by omega)
   ·rw [decide_eq_false h2,if_neg (by omega),aT.j1,if_neg (by decide),← List.append_assoc]
    obtain ⟨k2,e⟩:∃ z,k = (s.nx*s.ny).toNat+1+z:=⟨k - (s.nx*s.ny).toNat - 1,by omega⟩
    rw [e,LF s x layer t u j hN hcu hl0 hl1 h0 (by omega) (s.nx*s.ny).toNat 0 k2 l (Int.le_refl _) (by omega)]
    exact ih k2 _ (by omega)
end Go.Proofs.Ytmhaiihjfgfaoaa.Gl
end
section
namespace Go.Proofs.Ytmhaiihjfgfaoaa.Gl
open Go.RowKit Go.Proofs.YtmhaiihjfgfaoaaW.PrintWords Go.Proofs.YtmhaiihjfgfaoaaW.PrintLast Go.Proofs.YtmhaiihjfgfaoaaW.PrintMore Go.Proofs.Ytmhaiihjfgfaoaa.Pr
theorem Kq (l:List vY) (layers:Int) (hl:l.length≤64):∀ (m i K:Nat),i+m = l.length→m+1≤K→bM.l0 K l layers (i:Int) = some (if (l.drop i).all (BK layers) then 0 else 2)
 |0,i,K+1,h,hk=>by
  rw [bM.l0,if_neg (by omega),List.drop_eq_nil_of_le (by omega)];rfl
 |m+1,i,K+1,h,hk=>by
  have hi:i < l.length:=by omega
  have ih:=Kq l layers hl m (i+1) K (by omega) (by omega)
  have e:dx l (i:Int) = l[i]:=by
   unfold dx
   simp [hi]
  rw [bM.l0,if_pos (by omega),if_pos (by omega),bX (x:=(i:Int)+1) (by omega),show (i:Int)+1 = ((i+1:Nat):Int) from by omega,ih,e,List.drop_eq_getElem_cons hi,List.all_cons]
  generalize l[i] = c
  generalize (List.drop (i+1) l).all (BK layers) = b
  unfold BK lG
  by_cases h1:c.f0 < 0
  ·rw [if_pos h1,decide_eq_false (show ¬(0≤c.f0) by omega)];rfl
  rw [if_neg h1,decide_eq_true (show 0≤c.f0 by omega)]
  by_cases h2:c.f0 > 8
  ·rw [if_pos h2,decide_eq_false (show ¬(c.f0≤8) by omega)];rfl
  rw [if_neg h2,decide_eq_true (show c.f0≤8 by omega)]
  by_cases h3:c.f1 < 0
  ·rw [if_pos h3,decide_eq_false (show ¬(0≤c.f1) by omega)];rfl
  rw [if_neg h3,decide_eq_true (show 0≤c.f1 by omega)]
  by_cases h4:layers ≥ 0
  ·rw [if_pos h4,decide_eq_false (show ¬(layers < 0) by omega)]
   by_cases h5:c.f1 ≥ layers
   ·rw [if_pos h5,decide_eq_false (show ¬(c.f1 < layers) by omega)];rfl
   ·rw [if_neg h5,decide_eq_true (show c.f1 < layers by omega)];rfl
  ·rw [if_neg h4,decide_eq_true (show layers < 0 by omega)];rfl
theorem aka (l:List vY) (layers:Int) (K:Nat) (hk:66≤K):bM.f K l layers = some (wG l layers):=by
 unfold bM.f wG
 by_cases h:l.length > 64
 ·rw [if_pos (by omega),if_pos h]
 ·rw [if_neg (by omega),if_neg h]
  have:=Kq l layers (by omega) l.length 0 K (by omega) (by omega)
  rw [List.drop_zero] at this
  exact this
end Go.Proofs.Ytmhaiihjfgfaoaa.Gl
end
section
namespace Go.Proofs.Ytmhaiihjfgfaoaa.Pr
open Go.RowKit Go.Proofs.YtmhaiihjfgfaoaaW.PrintWords Go.Proofs.YtmhaiihjfgfaoaaW.PrintLast Go.Proofs.YtmhaiihjfgfaoaaW.PrintMore
attribute [local go_sem] cz cB dK dL cK
set_option linter.unusedVariables false
set_option linter.unusedSimpArgs false
end Go.Proofs.Ytmhaiihjfgfaoaa.Pr
end
section
namespace Go.Proofs.Ytmhaiihjfgfaoaa.Pr
open Go.RowKit Go.Proofs.YtmhaiihjfgfaoaaW.PrintWords Go.Proofs.YtmhaiihjfgfaoaaW.PrintLast Go.Proofs.YtmhaiihjfgfaoaaW.PrintMore
attribute [local go_sem] cz cB dK dL cK
set_option linter.unusedVariables false
set_option linter.unusedSimpArgs false
attribute [local go_sem high] akK
end Go.Proofs.Ytmhaiihjfgfaoaa.Pr
end
section
namespace Go.Proofs.Ytmhaiihjfgfaoaa.Gl
open Go.RowKit Go.Proofs.YtmhaiihjfgfaoaaW.PrintWords Go.Proofs.YtmhaiihjfgfaoaaW.PrintLast Go.Proofs.YtmhaiihjfgfaoaaW.PrintMore Go.Proofs.Ytmhaiihjfgfaoaa.Pr
set_option linter.unusedVariables false
theorem TR (k:Nat) (a:Int) (h:-4611686018427387904≤a∧a≤4611686018427387904):fu.f (k+1) a 1000 = some (a / 1000):=by
 rw [fu.f,if_neg (by omega),if_neg (by omega)]
 by_cases h0:0≤a
 ·rw [Int.tmod_eq_emod_of_nonneg h0,Int.tdiv_eq_ediv_of_nonneg h0,if_neg (by omega),bX (by omega)]
 ·obtain ⟨b,rfl⟩:∃ b,a = -b:=⟨-a,by omega⟩
  rw [Int.neg_tmod,Int.neg_tdiv,Int.tmod_eq_emod_of_nonneg (show 0≤b by omega),Int.tdiv_eq_ediv_of_nonneg (show 0≤b by omega)]
  by_cases h1:-(b % 1000) < 0
  ·rw [if_pos h1,bX (x:=-(b / 1000)) (by omega),bX (by omega)]
   congr 1;omega
  ·rw [if_neg h1,bX (by omega)]
   congr 1;omega
theorem Da (k:Nat) (a:Int) (h:-4611686018427387904≤a∧a≤4611686018427387904):fu.f (k+1) a 1000000 = some (Dm a):=by
 unfold Dm
 rw [fu.f,if_neg (by omega),if_neg (by omega)]
 by_cases h0:0≤a
 ·rw [Int.tmod_eq_emod_of_nonneg h0,Int.tdiv_eq_ediv_of_nonneg h0,if_neg (by omega),bX (by omega)]
 ·obtain ⟨b,rfl⟩:∃ b,a = -b:=⟨-a,by omega⟩
  rw [Int.neg_tmod,Int.neg_tdiv,Int.tmod_eq_emod_of_nonneg (show 0≤b by omega),Int.tdiv_eq_ediv_of_nonneg (show 0≤b by omega)]
  by_cases h1:-(b % 1000000) < 0
  ·rw [if_pos h1,bX (x:=-(b / 1000000)) (by omega),bX (by omega)]
   congr 1;omega
  ·rw [if_neg h1,bX (by omega)]
   congr 1;omega
theorem XG (k:Nat) (a:Int) (h:0≤a∧a≤4611686018427387904):iy.f (k+1) a 1000 = some ((a+999) / 1000):=by
 unfold iy.f
 rw [bX (x:=-a) (by omega),TR k (-a) (by omega),Option.bind_some,bX (by omega)]
 congr 1;omega
theorem Qo (k:Nat) (a:Int) (h:-4611686018427387904≤a∧a≤4611686018427387904):iy.f (k+1) a 1000000 = some (Uo a):=by
 unfold iy.f Uo
 rw [bX (x:=-a) (by omega),Da k (-a) (by omega),Option.bind_some]
 unfold Dm
 rw [bX (by omega)]
theorem LG {s:lF} {v:qO} {x:gz} (hS:xz s) (hV:Br v) (hx:Bq x) (k:Nat):eB.f (k+1) s.nx s.ny s.cell s.slot s.slots s.layers s.most s.shores s.currents v.speed v.dive v.use.f0 v.use.f1 v.drift.f0 v.drift.f1 v.reserve x.f0.f0 x.f0.f1 x.f1.f0 x.f1.f1 = some ((dB s v x).f0.f0,(dB s v x).f0.f1,(dB s v x).f1.f0,(dB s v x).f1.f1):=by
 have n1:=hV.speed;have n2:=hV.dive;have n3:=hS.most
 obtain ⟨p0,p1⟩:=fI (a:=v.speed+s.most) (b:=v.dive) (m:=10000) (n:=131072) (by omega) (by omega) (by omega) (by omega)
 obtain ⟨x0,x1,x2,x3⟩:=hx
 unfold eB.f dB
 rw [bX (x:=v.speed+s.most) (by omega),bX (x:=(v.speed+s.most)*v.dive) (by omega),XG k _ (by omega),Option.bind_some]
 generalize hm:((v.speed+s.most)*v.dive+999) / 1000 = m at*
 rw [bX (x:=x.f0.f0 - m) (by omega),bX (x:=x.f0.f1+m) (by omega),bX (x:=x.f1.f0 - m) (by omega),bX (x:=x.f1.f1+m) (by omega)]
theorem acH {s:lF} (hS:xz s) (x:gz):iQ.f s.nx s.ny s.cell s.slot s.slots s.layers s.most s.shores s.currents x.f0.f0 x.f0.f1 x.f1.f0 x.f1.f1 = some (gN s x):=by
 have n1:=hS.nx;have n2:=hS.ny;have n3:=hS.cell
 obtain ⟨a0,a1⟩:=fI (a:=s.nx) (b:=s.cell) (m:=12) (n:=65536) (by omega) (by omega) (by omega) (by omega)
 obtain ⟨b0,b1⟩:=fI (a:=s.ny) (b:=s.cell) (m:=12) (n:=65536) (by omega) (by omega) (by omega) (by omega)
 unfold iQ.f gN
 rw [bX (x:=s.nx*s.cell) (by omega),bX (x:=s.ny*s.cell) (by omega)]
 by_cases g1:0≤x.f0.f0 <;> by_cases g2:x.f0.f1≤s.nx*s.cell <;> by_cases g3:0≤x.f1.f0 <;> simp [g1,g2,g3]
theorem XH {s:lF} (hS:xz s) (t u:Int):iw.f s.nx s.ny s.cell s.slot s.slots s.layers s.most s.shores s.currents t u = some (ql s t u):=by
 have n4:=hS.slot;have n5:=hS.slots
 obtain ⟨d0,d1⟩:=fI (a:=s.slots) (b:=s.slot) (m:=16) (n:=1048576) (by omega) (by omega) (by omega) (by omega)
 unfold iw.f ql
 rw [bX (x:=s.slots*s.slot) (by omega)]
 by_cases g1:0≤t <;> simp [g1]
def XI (s:lF) (v:qO) (x:gz) (t:Int):Bool:=gN s (dB s v x) && ql s t (t+v.dive)
theorem Hl (s:lF) (v:qO) (x:gz) (t:Int):lY s v x t = if XI s v x t = true then 0 else 5:=rfl
theorem TS {s:lF} {v:qO} {x:gz} {t:Int} (hS:xz s) (hV:Br v) (hx:Bq x) (ht:0≤t∧t≤1099511627776) (k:Nat):dw.f (k+1) s.nx s.ny s.cell s.slot s.slots s.layers s.most s.shores s.currents v.speed v.dive v.use.f0 v.use.f1 v.drift.f0 v.drift.f1 v.reserve x.f0.f0 x.f0.f1 x.f1.f0 x.f1.f1 t = some (XI s v x t):=by
 have n2:=hV.dive
 unfold dw.f XI
 rw [LG hS hV hx k,Option.bind_some]
 refine Eq.trans (congrArg (fun o=>Option.bind o _) (acH hS (dB s v x))) ?_
 rw [Option.bind_some,bX (x:=t+v.dive) (by omega),XH hS,Option.bind_some]
 cases gN s (dB s v x) <;> rfl
theorem Q4 (s:lF) (v:qO) (x:gz) (hS:xz s) (hV:Br v) (hx:Bq x) (hsh:(s.shores.length:Int) = s.nx*s.ny):∀ (m i K:Nat),(i:Int)+(m:Int) = s.nx*s.ny→m+2≤K→
 bu.l0 K (i:Int) s.nx s.ny s.cell s.slot s.slots s.layers s.most s.shores s.currents v.speed v.dive v.use.f0 v.use.f1 v.drift.f0 v.drift.f1 v.reserve x.f0.f0 x.f0.f1 x.f1.f0 x.f1.f1
  = some (!(List.range m).any fun r=>Bj false s.shores ((i:Int)+(r:Int)) && uf s (dB s v x) ((i:Int)+(r:Int)))
 |0,i,K+1,h,hk=>by
  have n1:=hS.nx;have n2:=hS.ny
  obtain ⟨p0,p1⟩:=fI (a:=s.nx) (b:=s.ny) (m:=12) (n:=12) (by omega) (by omega) (by omega) (by omega)
  rw [bu.l0,bX (x:=s.nx*s.ny) (by omega),if_neg (by omega)];rfl
 |m+1,i,K+1,h,hk=>by
  obtain ⟨K,rfl⟩:∃ z,K = z+1:=⟨K - 1,by omega⟩
  have n1:=hS.nx;have n2:=hS.ny
  obtain ⟨p0,p1⟩:=fI (a:=s.nx) (b:=s.ny) (m:=12) (n:=12) (by omega) (by omega) (by omega) (by omega)
  have ih:=Q4 s v x hS hV hx hsh m (i+1) (K+1) (by omega) (by omega)
  have e1:∀ r:Nat,((i+1:Nat):Int)+(r:Int) = (i:Int)+((r+1:Nat):Int):=fun r=>by omega
  simp only [e1] at ih
  have e2:(List.range (m+1)).any (fun r=>Bj false s.shores ((i:Int)+(r:Int)) && uf s (dB s v x) ((i:Int)+(r:Int))) = ((Bj false s.shores (i:Int) && uf s (dB s v x) (i:Int)) || (List.range m).any fun r=>Bj false s.shores ((i:Int)+((r+1:Nat):Int)) && uf s (dB s v x) ((i:Int)+((r+1:Nat):Int))):=by
   rw [List.range_succ_eq_map,List.any_cons,List.any_map]
   simp only [Int.ofNat_zero,Int.natCast_zero,Int.add_zero]
   rfl
  rw [bu.l0,bX (x:=s.nx*s.ny) (by omega),if_pos (by omega),if_pos (by omega),if_pos (by omega),bX (x:=(i:Int)+1) (by omega),show (i:Int)+1 = ((i+1:Nat):Int) from by omega,ih,e2]
  cases hr:Bj false s.shores (i:Int) with
  |false=>rw [if_neg (by decide),Bool.false_and,Bool.false_or]
  |true =>
   rw [if_pos rfl,LG hS hV hx K,Option.bind_some,VV s hS (i:Int) (by omega) (by omega),Option.bind_some]
   refine Eq.trans (congrArg (fun o=>Option.bind o _) (Ma (dB s v x) _ _ _ _)) ?_
   rw [Option.bind_some]
   have et:((decide ((dB s v x).f0.f0≤((i:Int) % s.nx+1)*s.cell) && decide ((i:Int) % s.nx*s.cell≤(dB s v x).f0.f1)) && (decide ((dB s v x).f1.f0≤((i:Int) / s.nx+1)*s.cell) && decide ((i:Int) / s.nx*s.cell≤(dB s v x).f1.f1))) = uf s (dB s v x) (i:Int):=rfl
   rw [et]
   cases uf s (dB s v x) (i:Int) with
   |true=>rfl
   |false=>rw [if_neg (by decide),Bool.and_false,Bool.false_or]
theorem ae7 {s:lF} {v:qO} {x:gz} (hS:xz s) (hV:Br v) (hx:qx x) (hsh:(s.shores.length:Int) = s.nx*s.ny) (hc:gN s (dB s v x) = true) (K:Nat) (hk:146≤K):
 bu.f K s.nx s.ny s.cell s.slot s.slots s.layers s.most s.shores s.currents v.speed v.dive v.use.f0 v.use.f1 v.drift.f0 v.drift.f1 v.reserve x.f0.f0 x.f0.f1 x.f1.f0 x.f1.f1 = some (decide (xY s (dB s v x) = 0)):=by
 have n1:=hS.nx;have n2:=hS.ny
 obtain ⟨p0,p1⟩:=fI (a:=s.nx) (b:=s.ny) (m:=12) (n:=12) (by omega) (by omega) (by omega) (by omega)
 obtain ⟨g0,g1⟩:=VS (s:=s) hS hV hx
 unfold bu.f
 have:=Q4 s v x hS hV hx.1 hsh (s.nx*s.ny).toNat 0 K (by omega) (by omega)
 rw [show ((0:Nat):Int) = 0 from rfl] at this
 rw [this,Option.some.injEq]
 have he:(List.range (s.nx*s.ny).toNat).any (fun r=>Bj false s.shores (0+(r:Int)) && uf s (dB s v x) (0+(r:Int))) = (nW s (dB s v x)).any (fun c=>Bj false s.shores c):=by
  rw [Bool.eq_iff_iff,List.any_eq_true,List.any_eq_true]
  constructor
  ·rintro ⟨r,hr,h⟩
   rw [List.mem_range] at hr
   rw [Int.zero_add,Bool.and_eq_true] at h
   exact ⟨_,(Gi hS g0 g1 hc).2 ⟨by omega,h.2⟩,h.1⟩
  ·rintro ⟨c,hcm,h⟩
   obtain ⟨hb,ht⟩:=(Gi hS g0 g1 hc).1 hcm
   refine ⟨c.toNat,by rw [List.mem_range];omega,?_⟩
   rw [Int.zero_add,show ((c.toNat:Nat):Int) = c from by omega,h,ht];rfl
 rw [he]
 unfold xY
 cases (nW s (dB s v x)).any (fun c=>Bj false s.shores c) <;> rfl
theorem aaN {h:Int} (h0:0≤h) (h1:h≤8):iB.f h = some ((pU h).1,(pU h).2):=by
 have:h = 0∨h = 1∨h = 2∨h = 3∨h = 4∨h = 5∨h = 6∨h = 7∨h = 8:=by omega
 rcases this with rfl|rfl|rfl|rfl|rfl|rfl|rfl|rfl|rfl <;> rfl
theorem Q5 {a u:nD} {sp d:Int} (hd:1≤d∧d≤131072) (ha0:-1099511627776≤a.f0∧a.f0≤1099511627776) (ha1:-1099511627776≤a.f1∧a.f1≤1099511627776) (hs0:-5000000≤sp∧sp≤5000000) (hu0:-5000≤u.f0∧u.f0≤5000) (hu1:-5000≤u.f1∧u.f1≤5000) (k:Nat):
 bY.f (k+1) a.f0 a.f1 sp u.f0 u.f1 d = some ((nL d a sp u).f0,(nL d a sp u).f1):=by
 have m0:=nH (a:=sp+1000*u.f0) (b:=d) (m:=10000000) (n:=131072) (by omega) (by omega) (by omega) (by omega) (by omega)
 have m1:=nH (a:=sp+1000*u.f1) (b:=d) (m:=10000000) (n:=131072) (by omega) (by omega) (by omega) (by omega) (by omega)
 unfold bY.f nL
 rw [bX (x:=1000*u.f0) (by omega),bX (x:=1000*u.f1) (by omega),bX (x:=sp+1000*u.f0) (by omega),bX (x:=sp+1000*u.f1) (by omega),bX (x:=(sp+1000*u.f0)*d) (by omega),bX (x:=(sp+1000*u.f1)*d) (by omega),Da k _ (by omega),Option.bind_some,Qo k _ (by omega),Option.bind_some]
 have e0:wrap64 (a.f0+Dm ((sp+1000*u.f0)*d)) = a.f0+Dm ((sp+1000*u.f0)*d):=bX (by unfold Dm;omega)
 have e1:wrap64 (a.f1+Uo ((sp+1000*u.f1)*d)) = a.f1+Uo ((sp+1000*u.f1)*d):=bX (by unfold Uo;omega)
 rw [e0,e1]
theorem ae8 {s:lF} {v:qO} {x:gz} {t hd layer:Int} (hS:PU s) (hV:Br v) (hx:qx x) (hh0:0≤hd) (Un:hd≤8) (hl0:0≤layer) (hl1:layer < s.layers) (hm:XI s v x t = true) (K:Nat) (hk:2400≤K):
 bU.f K s.nx s.ny s.cell s.slot s.slots s.layers s.most s.shores s.currents v.speed v.dive v.use.f0 v.use.f1 v.drift.f0 v.drift.f1 v.reserve x.f0.f0 x.f0.f1 x.f1.f0 x.f1.f1 t hd layer = some ((vX s v x (dB s v x) t hd layer).f0.f0,(vX s v x (dB s v x) t hd layer).f0.f1,(vX s v x (dB s v x) t hd layer).f1.f0,(vX s v x (dB s v x) t hd layer).f1.f1):=by
 obtain ⟨K,rfl⟩:∃ z,K = z+1:=⟨K - 1,by omega⟩
 have hre:lY s v x t = 0:=by rw [Hl,if_pos hm]
 obtain ⟨hin,⟨ht0,ht1⟩,_⟩:=IG hS.n hV hx hre
 obtain ⟨g0,g1⟩:=VS (s:=s) hS.n hV hx
 unfold XI at hm
 rw [Bool.and_eq_true] at hm
 have n5:=hS.n.slots;have n4:=hS.n.slot;have nd:=hV.dive;have nsp:=hV.speed
 obtain ⟨d0,d1⟩:=fI (a:=s.slots) (b:=s.slot) (m:=16) (n:=1048576) (by omega) (by omega) (by omega) (by omega)
 have hat:aT.f (K+1) s.nx s.ny s.cell s.slot s.slots s.layers s.most s.shores s.currents (dB s v x).f0.f0 (dB s v x).f0.f1 (dB s v x).f1.f0 (dB s v x).f1.f1 layer t (t+v.dive) = some ((z8 s (dB s v x) layer t (t+v.dive)).f0.f0,(z8 s (dB s v x) layer t (t+v.dive)).f0.f1,(z8 s (dB s v x) layer t (t+v.dive)).f1.f0,(z8 s (dB s v x) layer t (t+v.dive)).f1.f1):=by
  rw [← acF hS.n g0 g1 hm.1 ht0 (by omega) ht1]
  unfold aT.f
  have:=Q3 s (dB s v x) layer t (t+v.dive) hS.n hS.cu hl0 hl1 s.slots.toNat 0 (K+1) [] (Int.le_refl _) (by omega) (by omega)
  rw [List.nil_append] at this
  exact this
 unfold bU.f
 rw [aaN hh0 Un,Option.bind_some,LG hS.n hV hx.1 K,Option.bind_some,bX (x:=t+v.dive) (by omega),hat,Option.bind_some]
 have hai:=Yr hS.cb (dB s v x) layer t (t+v.dive)
 have hdi:=IC hd
 unfold vX
 generalize z8 s (dB s v x) layer t (t+v.dive) = y at*
 generalize pU hd = d at*
 obtain ⟨y0,y1,y2,y3,y8,y9⟩:=hai
 have m0:=nH (a:=d.1) (b:=v.speed) (m:=1000) (n:=5000) hdi.1.1 hdi.1.2 nsp.1 nsp.2 (by omega)
 have m1:=nH (a:=d.2) (b:=v.speed) (m:=1000) (n:=5000) hdi.2.1 hdi.2.2 nsp.1 nsp.2 (by omega)
 obtain ⟨⟨x0,x1,x2,x3⟩,_⟩:=hx
 rw [bX (x:=d.1*v.speed) (by omega),bX (x:=d.2*v.speed) (by omega)]
 refine Eq.trans (congrArg (fun o=>Option.bind o _) (Q5 (a:=x.f0) (u:=y.f0) nd x0 x1 (by omega) y0 y1 K)) ?_
 rw [Option.bind_some]
 refine Eq.trans (congrArg (fun o=>Option.bind o _) (Q5 (a:=x.f1) (u:=y.f1) nd x2 x3 (by omega) y2 y3 K)) ?_
 rw [Option.bind_some]
theorem ae9 {s:lF} {v:qO} {x:gz} {t hd layer:Int} (hS:PU s) (hV:Br v) (hx:qx x) (ht:0≤t∧t≤1099511627776) (hh0:0≤hd) (Un:hd≤8) (hl0:0≤layer) (hl1:layer < s.layers) (K:Nat) (hk:2400≤K):
 jm.f K s.nx s.ny s.cell s.slot s.slots s.layers s.most s.shores s.currents v.speed v.dive v.use.f0 v.use.f1 v.drift.f0 v.drift.f1 v.reserve x.f0.f0 x.f0.f1 x.f1.f0 x.f1.f1 t hd layer = some ((kY s v x t hd layer).f0.f0,(kY s v x t hd layer).f0.f1,(kY s v x t hd layer).f1.f0,(kY s v x t hd layer).f1.f1,mO s v x t):=by
 obtain ⟨k,rfl⟩:∃ z,K = z+1:=⟨K - 1,by omega⟩
 unfold jm.f
 rw [TS hS.n hV hx.1 ht k,Option.bind_some]
 cases hm:XI s v x t with
 |false =>
  have hE:mO s v x t = 5:=by unfold mO;rw [Hl,hm,if_neg (show ¬(false = true) by decide),if_pos (by decide)]
  unfold kY
  rw [hE,if_neg (by decide),if_neg (by decide)];rfl
 |true =>
  have hE:mO s v x t = xY s (dB s v x):=by unfold mO;rw [Hl,hm,if_pos rfl,if_neg (by decide)]
  have hc:gN s (dB s v x) = true:=by unfold XI at hm;exact (Bool.and_eq_true_iff.1 hm).1
  rw [if_pos rfl,ae7 hS.n hV hx hS.sh hc (k+1) (by omega),Option.bind_some]
  unfold kY
  rw [hE]
  rcases UM s (dB s v x) with h|h
  ·rw [h,if_pos (by decide),if_pos rfl,ae8 hS hV hx hh0 Un hl0 hl1 hm (k+1) hk,Option.bind_some]
  ·rw [h,if_neg (by decide),if_neg (by decide)];rfl
theorem acI (x:gz) (t:Int):fo.f x.f0.f0 x.f0.f1 x.f1.f0 x.f1.f1 t = some (qm x t):=by
 unfold fo.f qm OZ lG
 rw [aaH,Option.bind_some]
 cases PW x with
 |false=>rfl
 |true =>
  by_cases h1:t < 0
  ·rw [if_pos rfl,if_pos h1,decide_eq_false (show ¬(0≤t) by omega)];rfl
  ·rw [if_pos rfl,if_neg h1,decide_eq_true (show 0≤t by omega)]
   by_cases h2:t > 1073741824
   ·rw [if_pos h2,decide_eq_false (show ¬(t≤1073741824) by omega)];rfl
   ·rw [if_neg h2,decide_eq_true (show t≤1073741824 by omega)];rfl
theorem afa (s:lF) (v:qO) (K:Nat) (hl:s.currents.length≤100000) (hk:s.currents.length+3≤K):fK.f K s.nx s.ny s.cell s.slot s.slots s.layers s.most s.shores s.currents v.speed v.dive v.use.f0 v.use.f1 v.drift.f0 v.drift.f1 v.reserve = some (nV s v):=by
 unfold fK.f nV
 rw [aaJ s K hl hk,Option.bind_some,Option.bind_some,aaI,Option.bind_some]
 by_cases h:uk s = 0
 ·rw [if_pos h,if_neg (fun q=>q h)]
 ·rw [if_neg h,if_pos h]
theorem Kr (s:lF) (v:qO) (t:Int) (l:List vY) (hS:PU s) (hV:Br v) (ht:0≤t∧t≤1073741824) (hl:l.length≤64) (hall:l.all (BK s.layers) = true):∀ (m i K:Nat) (x:gz) (out:List gz),i+m = l.length→m+2401≤K→qx x→out.length = i→
 bT.l0 K t l out (i:Int) s.nx s.ny s.cell s.slot s.slots s.layers s.most s.shores s.currents v.speed v.dive v.use.f0 v.use.f1 v.drift.f0 v.drift.f1 v.reserve x.f0.f0 x.f0.f1 x.f1.f0 x.f1.f1 = some (rG s v (l.drop i) x (t+(i:Int)*v.dive) (i:Int) out)
 |0,i,K+1,x,out,h,hk,hx,ho=>by
  obtain rfl:i = l.length:=by omega
  rw [bT.l0,if_neg (by omega),List.drop_length];rfl
 |m+1,i,K+1,x,out,h,hk,hx,ho=>by
  have hi:i < l.length:=by omega
  have e:dx l (i:Int) = l[i]:=by
   unfold dx
   simp [hi]
  have nd:=hV.dive
  obtain ⟨q0,q1⟩:=fI (a:=(i:Int)) (b:=v.dive) (m:=64) (n:=131072) (by omega) (by omega) (by omega) (by omega)
  obtain ⟨⟨hh0,Un⟩,hl0,hl1⟩:=Nv hS.n.layers.1 (List.all_eq_true.1 hall l[i] (List.getElem_mem hi))
  rw [bT.l0,if_pos (by omega),if_pos (by omega),bX (x:=(i:Int)*v.dive) (by omega),bX (x:=t+(i:Int)*v.dive) (by omega),e,List.drop_eq_getElem_cons hi,rG,ae9 hS hV hx ⟨by omega,by omega⟩ hh0 Un hl0 hl1 K (by omega),Option.bind_some]
  by_cases hE:mO s v x (t+(i:Int)*v.dive) = 0
  ·refine Eq.trans (if_pos hE) ?_
   rw [if_pos (show out.length < 4398046511104 by omega),if_neg (fun q=>q hE),bX (x:=(i:Int)+1) (by omega)]
   have ih:=Kr s v t l hS hV ht hl hall m (i+1) K (kY s v x (t+(i:Int)*v.dive) l[i].f0 l[i].f1) (out++[kY s v x (t+(i:Int)*v.dive) l[i].f0 l[i].f1]) (by omega) (by omega) (OW hS hV hx hE) (by rw [List.length_append,ho];rfl)
   rw [show ((i+1:Nat):Int) = (i:Int)+1 from by omega,Int.add_mul,Int.one_mul,← Int.add_assoc] at ih
   exact ih
  ·refine Eq.trans (if_neg hE) ?_
   rw [if_pos hE]
theorem akb (s:lF) (v:qO) (x:gz) (t:Int) (l:List vY) (K:Nat) (hl:s.currents.length≤100000) (hk:s.currents.length+3≤K) (hk':2500≤K):
 jL.f K s.nx s.ny s.cell s.slot s.slots s.layers s.most s.shores s.currents v.speed v.dive v.use.f0 v.use.f1 v.drift.f0 v.drift.f1 v.reserve x.f0.f0 x.f0.f1 x.f1.f0 x.f1.f1 t l = some (VC s v x t l):=by
 unfold jL.f VC
 have hub:pq s v x t = if nV s v≠0 then nV s v else qm x t:=rfl
 rw [afa s v K hl hk,Option.bind_some]
 by_cases h1:nV s v = 0
 ·rw [if_pos h1,acI,Option.bind_some]
  rw [if_neg (fun q=>q h1)] at hub
  rw [hub]
  by_cases h2:qm x t = 0
  ·rw [if_pos h2,if_neg (fun q=>q h2),aka _ _ K (by omega),Option.bind_some]
   by_cases h3:wG l s.layers = 0
   ·rw [if_pos h3,if_neg (fun q=>q h3)]
    obtain ⟨hS,hV⟩:=IM h1
    obtain ⟨hx,ht0,ht1⟩:=IP h2
    obtain ⟨ajw,hall⟩:=TL h3
    unfold bT.f
    have:=Kr s v t l hS hV ⟨ht0,ht1⟩ ajw hall l.length 0 K x [] (by omega) (by omega) hx rfl
    rw [show ((0:Nat):Int) = 0 from rfl,Int.zero_mul,Int.add_zero,List.drop_zero] at this
    rw [this,Option.bind_some]
   ·rw [if_neg h3,if_pos h3];try rfl
  ·rw [if_neg h2,if_pos h2];try rfl
 ·rw [if_neg h1]
  rw [if_pos h1] at hub
  rw [hub,if_pos h1];try rfl
end Go.Proofs.Ytmhaiihjfgfaoaa.Gl
end
section
namespace Go.Proofs.Ytmhaiihjfgfaoaa.Pure
open Go.RowKit Go.Proofs.YtmhaiihjfgfaoaaW.PrintWords Go.Proofs.YtmhaiihjfgfaoaaW.PrintLast Go.Proofs.Ytmhaiihjfgfaoaa.Pr Go.Proofs.Ytmhaiihjfgfaoaa.Good Go.Proofs.Ytmhaiihjfgfaoaa.Gl
namespace Holds
theorem works {k:Nat} (h:60≤k):bD.f k = some true:=KJ bD.mono h bD.akL
theorem XJ (s:lF) (v:qO):∀ (l:List vY) (x:gz) (t n:Int) (out:List gz),(rG s v l x t n out).2.2 = 0→(rG s v l x t n out).2.1 = n+(l.length:Int)∧(rG s v l x t n out).1.length = out.length+l.length∧out <+:(rG s v l x t n out).1
 |[],x,t,n,out,h=>by unfold rG;exact ⟨by simp,by simp,List.prefix_refl _⟩
 |c :: l,x,t,n,out,h=>by
  unfold rG at h ⊢
  split at h
  ·rename_i hn
   exact absurd h hn
  ·rename_i hn
   rw [if_neg hn]
   obtain ⟨h1,h2,h3⟩:=XJ s v l _ _ _ _ h
   exact ⟨by rw [h1,List.length_cons];omega,by rw [h2];simp only [List.length_append,List.length_cons,List.length_nil];omega,(List.prefix_append _ _).trans h3⟩
theorem aaO (s:lF) (v:qO):∀ (l:List vY) (x:gz) (t n:Int) (out:List gz),(rG s v l x t n out).2.2≠0→(rG s v l x t n out).1 = []
 |[],x,t,n,out,h=>by unfold rG at h;exact absurd rfl h
 |c :: l,x,t,n,out,h=>by
  unfold rG at h ⊢
  split at h
  ·rename_i hn
   rw [if_pos hn]
  ·rename_i hn
   rw [if_neg hn]
   exact aaO s v l _ _ _ _ h
section
variable (s:lF) (v:qO) (t:Int) (plan:List vY) (parts:List Int) (R:List gz) (hS:PU s) (hM:aaM s) (hV:Br v) (hall:plan.all (BK s.layers) = true) (hlen:plan.length≤8) (hparts:∀ y ∈ parts,(Lit.int .u16 y).wf = true) (ht:0≤t∧t≤1073741824)
include hS hM hV hall hlen hparts ht
theorem atX (i:Nat) (hi:i < plan.length) (hR:i < R.length) (X:gz) (hX:qx X) (T:Int) (hT:T = t+(i:Int)*v.dive) (hD:mO s v X T = 0) (hY:R[i] = kY s v X T plan[i].f0 plan[i].f1) (hYB:qx (kY s v X T plan[i].f0 plan[i].f1)) (F:Nat)
 (hgo:∀ (K:Nat) (px py:Int),F≤K→LB (kY s v X T plan[i].f0 plan[i].f1) px py→af.l0 K t plan parts R px py ((i:Int)+1) s.nx s.ny s.cell s.slot s.slots s.layers s.most s.shores s.currents v.speed v.dive v.use.f0 v.use.f1 v.drift.f0 v.drift.f1 v.reserve = some true):
 ∀ (n q K:Nat) (px py:Int),q+n = 4→F+2*n+1≤K→PQ X (quA s v X T plan[i].f0 plan[i].f1) (q:Int) px py→
 af.l1 K t plan parts R px py (i:Int) (pU plan[i].f0).1 (pU plan[i].f0).2 (q:Int) s.nx s.ny s.cell s.slot s.slots s.layers s.most s.shores s.currents v.speed v.dive v.use.f0 v.use.f1 v.drift.f0 v.drift.f1 v.reserve = some true:=by
 intro n
 induction n with
 |zero =>
  intro q K px py h hk hp
  obtain ⟨K,rfl⟩:∃ z,K = z+1:=⟨K - 1,by omega⟩
  obtain rfl:q = 4:=by omega
  have hin:=aj9 hD hp
  have e:oU R (i:Int) = R[i]:=by
   unfold oU
   simp [hR]
  have hs:=hYB.1
  unfold Bq at hs
  rw [af.l1,if_neg (by omega),if_pos (by omega),if_pos (by omega),e,hY]
  obtain ⟨b,hb,hb2⟩:=XD (x:=kY s v X T plan[i].f0 plan[i].f1) hs.1 hs.2.1 hs.2.2.1 hs.2.2.2 px py
  rw [hb,Option.bind_some,if_pos (hb2 hin),bX (x:=(i:Int)+1) (by omega)]
  exact hgo K px py (by omega) hin
 |succ n ih =>
  intro q K px py h hk hp
  obtain ⟨K,rfl⟩:∃ z,K = z+2:=⟨K - 2,by omega⟩
  have e:dx plan (i:Int) = plan[i]:=by
   unfold dx
   simp [hi]
  obtain ⟨⟨hh0,Un⟩,hl0,hl1⟩:=Nv hS.n.layers.1 (List.all_eq_true.1 hall plan[i] (List.getElem_mem hi))
  obtain ⟨hpx,hpy,⟨hT0,hj,hj0,hT1,aEa,aJP⟩,⟨aEb,aEc⟩,hix,hcur⟩:=ae6 (hd:=plan[i].f0) hS hM hV hX hD (q:=(q:Int)) (by omega) hp ⟨hl0,hl1⟩
  dsimp only at hcur
  obtain ⟨hcb,hnext⟩:=hcur
  have hcl:=hS.n.cell
  have hsl:=hS.n.slot
  have hnx:=hS.n.nx
  have hny:=hS.n.ny
  have hdv:=hV.dive
  have hsp:=hV.speed
  have hqi:=fI (a:=(i:Int)) (b:=v.dive) (m:=8) (n:=131072) (by omega) (by omega) (by omega) (by omega)
  have hTw:wrap64 (t+wrap64 ((i:Int)*v.dive)) = T:=by rw [bX (x:=(i:Int)*v.dive) (by omega),bX (x:=t+(i:Int)*v.dive) (by omega),hT]
  have hqw:wrap64 (Int.tdiv (wrap64 ((q:Int)*v.dive)) 4) = (q:Int)*v.dive / 4:=by rw [bX (x:=(q:Int)*v.dive) (by omega),Int.tdiv_eq_ediv_of_nonneg aEa,bX (x:=(q:Int)*v.dive / 4) (by omega)]
  have hdx:=Bl (x:=px / 4000000) (c:=s.cell) (by omega) (by omega)
  have hdy:=Bl (x:=py / 4000000) (c:=s.cell) (by omega) (by omega)
  have hkx:mn (wrap64 (Int.tdiv (wrap64 (Int.tdiv px 4000000)) s.cell)) (wrap64 (s.nx - 1)) = min (px / 4000000 / s.cell) (s.nx - 1):=by
   rw [Io,Int.tdiv_eq_ediv_of_nonneg hpx.1,bX (x:=px / 4000000) (by omega),Int.tdiv_eq_ediv_of_nonneg (show 0≤px / 4000000 by omega),bX (x:=px / 4000000 / s.cell) (by omega),bX (x:=s.nx - 1) (by omega)]
  have hky:mn (wrap64 (Int.tdiv (wrap64 (Int.tdiv py 4000000)) s.cell)) (wrap64 (s.ny - 1)) = min (py / 4000000 / s.cell) (s.ny - 1):=by
   rw [Io,Int.tdiv_eq_ediv_of_nonneg hpy.1,bX (x:=py / 4000000) (by omega),Int.tdiv_eq_ediv_of_nonneg (show 0≤py / 4000000 by omega),bX (x:=py / 4000000 / s.cell) (by omega),bX (x:=s.ny - 1) (by omega)]
  have hslots:=hS.n.slots
  have hjw:wrap64 (Int.tdiv (wrap64 (T+(q:Int)*v.dive / 4)) s.slot) = (T+(q:Int)*v.dive / 4) / s.slot:=by rw [bX (x:=T+(q:Int)*v.dive / 4) (by omega),Int.tdiv_eq_ediv_of_nonneg (show 0≤T+(q:Int)*v.dive / 4 by omega),bX (x:=(T+(q:Int)*v.dive / 4) / s.slot) (by omega)]
  have hdi:=IC plan[i].f0
  rw [af.l1,if_pos (by omega),if_neg (by omega),if_neg (by omega),hTw,hqw,hjw,hkx,hky,if_neg (by omega),if_neg (by omega),decide_eq_false (show ¬((T+(q:Int)*v.dive / 4) / s.slot ≥ s.slots) by omega),af.j4,if_neg (by decide),if_pos (by omega),if_pos (by omega),e]
  have atY:=aD9 (J:=(T+(q:Int)*v.dive / 4) / s.slot) (L:=s.layers) (layer:=plan[i].f1) (nx:=s.nx) (ny:=s.ny) ⟨hj0,by omega⟩ ⟨by have:=hS.n.layers;omega,hS.n.layers.2⟩ ⟨hl0,by have:=hS.n.layers;omega⟩ ⟨by omega,hnx.2⟩ ⟨by omega,hny.2⟩ aEc aEb
  have hpt:((T+(q:Int)*v.dive / 4) / s.slot*s.layers+plan[i].f1)*(s.nx*s.ny)+(min (py / 4000000 / s.cell) (s.ny - 1)*s.nx+min (px / 4000000 / s.cell) (s.nx - 1)) = Pz s plan[i].f1 (T+(q:Int)*v.dive / 4) px py:=rfl
  rw [hpt] at atY
  rw [atY,if_pos hix.1,if_pos hix.2]
  generalize aH s.currents (Pz s plan[i].f1 (T+(q:Int)*v.dive / 4) px py) = cu at*
  obtain ⟨a0,ha0,ha1⟩:=aaK hparts (i:=8*(i:Int)+2*(q:Int)) (by omega)
  obtain ⟨a2,ha2,ha3⟩:=aaK hparts (i:=8*(i:Int)+2*(q:Int)+1) (by omega)
  obtain ⟨pu,hpu,atZ,at0⟩:=Oe (a:=cu.f0.f0) (b:=cu.f0.f1) (m:=a0) (by omega) (by omega) (by omega) ha1
  obtain ⟨pv,hpv,at1,hpv1⟩:=Oe (a:=cu.f1.f0) (b:=cu.f1.f1) (m:=a2) (by omega) (by omega) (by omega) ha3
  rw [bX (x:=8*(i:Int)) (by omega),bX (x:=2*(q:Int)) (by omega),bX (x:=8*(i:Int)+2*(q:Int)) (by omega),ha0,Option.bind_some,hpu,Option.bind_some,bX (x:=8*(i:Int)+2*(q:Int)+1) (by omega),ha2,Option.bind_some,hpv,Option.bind_some]
  have hmx:=alM (px:=px) (D:=(pU plan[i].f0).1) (speed:=v.speed) (pu:=pu) (dive:=v.dive) hpx hdi.1 hsp (by omega) ⟨by omega,hdv.2⟩
  have hmy:=alM (px:=py) (D:=(pU plan[i].f0).2) (speed:=v.speed) (pu:=pv) (dive:=v.dive) hpy hdi.2 hsp (by omega) ⟨by omega,hdv.2⟩
  have hPQ:=hnext pu pv ⟨atZ,at0⟩ ⟨at1,hpv1⟩
  rw [hmx,hmy,bX (x:=(q:Int)+1) (by omega)]
  have hc:((q+1:Nat):Int) = (q:Int)+1:=by omega
  have:=ih (q+1) K _ _ (by omega) (by omega) (by rw [hc];exact hPQ)
  rw [hc] at this
  exact this
theorem at5:∀ (m i K:Nat) (X:gz) (px py T:Int) (out:List gz),i+m = plan.length→10*m+70≤K→T = t+(i:Int)*v.dive→(rG s v (plan.drop i) X T (i:Int) out).2.2 = 0→(rG s v (plan.drop i) X T (i:Int) out).1 = R→qx X→LB X px py→out.length = i→
 af.l0 K t plan parts R px py (i:Int) s.nx s.ny s.cell s.slot s.slots s.layers s.most s.shores s.currents v.speed v.dive v.use.f0 v.use.f1 v.drift.f0 v.drift.f1 v.reserve = some true:=by
 intro m
 induction m with
 |zero =>
  intro i K X px py T out h hk hT hr hR hX hp ho
  obtain ⟨K,rfl⟩:∃ z,K = z+1:=⟨K - 1,by omega⟩
  rw [af.l0,if_neg (by omega),works (by omega)];rfl
 |succ m ih =>
  intro i K X px py T out h hk hT hr hR hX hp ho
  obtain ⟨K,rfl⟩:∃ z,K = z+1:=⟨K - 1,by omega⟩
  have hi:i < plan.length:=by omega
  have e:dx plan (i:Int) = plan[i]:=by
   unfold dx
   simp [hi]
  obtain ⟨⟨hh0,Un⟩,hl0,hl1⟩:=Nv hS.n.layers.1 (List.all_eq_true.1 hall plan[i] (List.getElem_mem hi))
  rw [List.drop_eq_getElem_cons hi] at hr hR
  unfold rG at hr hR
  by_cases hD:mO s v X T = 0
  case neg =>
   rw [if_pos hD] at hr
   exact absurd hr hD
  rw [if_neg (fun q=>q hD)] at hr hR
  obtain ⟨_,hlenR,hpre⟩:=XJ s v _ _ _ _ _ hr
  rw [hR] at hlenR hpre
  rw [List.length_append,List.length_singleton,ho] at hlenR
  have hRi:i < R.length:=by omega
  have hY:R[i] = kY s v X T plan[i].f0 plan[i].f1:=by
   obtain ⟨z,hz⟩:=hpre
   have:R[i]? = some (kY s v X T plan[i].f0 plan[i].f1):=by
    rw [← hz,List.append_assoc,List.getElem?_append_right (by omega),ho,Nat.sub_self]
    rfl
   rw [List.getElem?_eq_getElem hRi] at this
   exact Option.some.inj this
  have hYB:=OW (hd:=plan[i].f0) (layer:=plan[i].f1) hS hV hX hD
  rw [af.l0,if_pos (by omega),if_pos (by omega),e,aaN hh0 Un,Option.bind_some]
  have hc:((i+1:Nat):Int) = (i:Int)+1:=by omega
  have hT2:T+v.dive = t+((i+1:Nat):Int)*v.dive:=by rw [hT,hc,Int.add_mul,Int.one_mul];omega
  have h1:=atX s v t plan parts R hS hM hV hall hlen hparts ht i hi hRi X hX T hT hD hY hYB (10*m+70) (fun K' px' py' hK' hp'=>by
   have:=ih (i+1) K' _ px' py' (T+v.dive) _ (by omega) hK' hT2 (by rw [hc];exact hr) (by rw [hc];exact hR) hYB hp' (by rw [List.length_append,ho];rfl)
   rw [hc] at this
   exact this) 4 0 K px py rfl (by omega) (aj8 hp)
  exact h1
end
end Holds
open Holds in
theorem GliderHolds:∀ (x0:S25) (x1:S29) (x2:gz) (x3:Int) (x4:(List vY)) (x5:G56) (x6:(List Int)),W25 x0→W29 x1→W31 x2→(Lit.int .i64 x3).wf = true→((∀ y ∈ x4,W33 y)∧x4.length*Try.prog.bytesOf 33≤reachBytes)→W56 x5→((∀ y ∈ x6,(Lit.int .u16 y).wf = true)∧x6.length*Try.prog.bytesOf 55≤reachBytes)→∃ k,af.f k (x0.f0) (x0.f1) (x0.f2) (x0.f3) (x0.f4) (x0.f5) (x0.f6) (x0.f7) (x0.f8) (x1.f0) (x1.f1) (x1.f2.f0) (x1.f2.f1) (x1.f3.f0) (x1.f3.f1) (x1.f4) (x2.f0.f0) (x2.f0.f1) (x2.f1.f0) (x2.f1.f1) x3 x4 (x5.f0) (x5.f1) x6 = some true:=by
 intro x0 x1 x2 x3 x4 x5 x6 g0 g1 g2 g3 g4 g5 g6
 let s:lF:=⟨x0.f0,x0.f1,x0.f2,x0.f3,x0.f4,x0.f5,x0.f6,x0.f7,x0.f8⟩
 let v:qO:=⟨x1.f0,x1.f1,⟨x1.f2.f0,x1.f2.f1⟩,⟨x1.f3.f0,x1.f3.f1⟩,x1.f4⟩
 have main:∀ K:Nat,4000≤K→af.f (K+2) s.nx s.ny s.cell s.slot s.slots s.layers s.most s.shores s.currents v.speed v.dive v.use.f0 v.use.f1 v.drift.f0 v.drift.f1 v.reserve x2.f0.f0 x2.f0.f1 x2.f1.f0 x2.f1.f1 x3 x4 x5.f0 x5.f1 x6 = some true:=by
  intro K hK
  have ht:af.j0 (K+2) x3 x4 x6 true s.nx s.ny s.cell s.slot s.slots s.layers s.most s.shores s.currents v.speed v.dive v.use.f0 v.use.f1 v.drift.f0 v.drift.f1 v.reserve x2.f0.f0 x2.f0.f1 x2.f1.f0 x2.f1.f1 x5.f0 x5.f1 = some true:=by
   rw [af.j0,if_pos rfl,works (by omega)];rfl
  unfold af.f
  rw [aj6 s v x2 x3 (K+2) (by omega),Option.bind_some]
  by_cases hval:aj5 s v x2 x3 = true
  case neg=>rw [if_neg hval,ht]
  rw [if_pos hval]
  by_cases h6:(x4.length:Int) > 8
  ·rw [decide_eq_true h6,ht]
  rw [decide_eq_false h6,af.j0,if_neg (by decide)]
  unfold aj5 at hval
  simp only [Bool.and_eq_true,Bool.not_eq_true',decide_eq_false_iff_not,decide_eq_true_eq] at hval
  obtain ⟨⟨⟨⟨⟨⟨v1,v2⟩,v3⟩,v4⟩,v5⟩,v6⟩,v7⟩:=hval
  have hcp:qU.f s.nx s.ny s.cell s.slot s.slots s.layers s.most s.shores s.currents v.speed v.dive v.use.f0 v.use.f1 v.drift.f0 v.drift.f1 v.reserve x2.f0.f0 x2.f0.f1 x2.f1.f0 x2.f1.f1 x3 x4 = some (VC s v x2 x3 x4):=rfl
  rw [hcp,Option.bind_some,akb s v x2 x3 x4 (K+1) (by omega) (by omega) (by omega),Option.bind_some,if_pos rfl]
  have hse:uk s = 0:=by unfold uk;rw [if_pos v3]
  have hve:KV v = 0:=by unfold KV;rw [if_pos v4]
  have htr:nV s v = 0:=by unfold nV;rw [if_neg (fun q=>q hse)];exact hve
  have hbo:OZ x2 = 0:=by unfold OZ;rw [if_pos v5]
  have hpl:qm x2 x3 = 0:=by unfold qm;rw [if_neg (fun q=>q hbo),if_pos (iV.2 ⟨v6,v7⟩)]
  have hbg:pq s v x2 x3 = 0:=by
   have:pq s v x2 x3 = if nV s v≠0 then nV s v else qm x2 x3:=rfl
   rw [this,if_neg (fun q=>q htr)]
   exact hpl
  obtain ⟨hbx,_,_⟩:=IP hpl
  obtain ⟨hSV,hVN⟩:=IM htr
  have hRX:VC s v x2 x3 x4 = if wG x4 s.layers≠0 then ([],0,wG x4 s.layers) else rG s v x4 x2 x3 0 []:=by unfold VC;rw [if_neg (fun q=>q hbg)]
  by_cases hc0:wG x4 s.layers = 0
  case neg =>
   rw [if_pos hc0] at hRX
   rw [hRX,if_neg (show ¬(wG x4 s.layers = 0) from hc0),if_pos (show (([]:List gz).length:Int) = 0 from rfl),works (by omega)];rfl
  rw [if_neg (fun q=>q hc0)] at hRX
  rw [hRX]
  by_cases hr0:(rG s v x4 x2 x3 0 []).2.2 = 0
  case neg=>rw [if_neg hr0,aaO s v _ _ _ _ _ hr0,if_pos (show (([]:List gz).length:Int) = 0 from rfl),works (by omega)];rfl
  obtain ⟨q1,q2,_⟩:=XJ s v _ _ _ _ _ hr0
  rw [List.length_nil,Nat.zero_add] at q2
  rw [Int.zero_add] at q1
  obtain ⟨ajw,hall⟩:=TL hc0
  have hne:(((rG s v x4 x2 x3 0 []).1.length:Int) != (rG s v x4 x2 x3 0 []).2.1) = false:=by rw [q1,q2];simp
  rw [if_pos hr0,if_pos q1,hne,af.j1,if_neg (by decide)]
  have hw0:=wf_u16 g5.1
  have hw1:=wf_u16 g5.2
  have anV:=v5
  unfold PW at anV
  simp only [Bool.and_eq_true,iV] at anV
  obtain ⟨_,⟨⟨⟨b0,b1⟩,b2⟩,b3⟩⟩:=anV
  have hBX:=hbx
  obtain ⟨_,o0,o1⟩:=hbx
  obtain ⟨pu,hpu,atZ,at0⟩:=Oe (a:=x2.f0.f0) (b:=x2.f0.f1) (m:=x5.f0) (by omega) o0 (by omega) hw0
  obtain ⟨pv,hpv,at1,hpv1⟩:=Oe (a:=x2.f1.f0) (b:=x2.f1.f1) (m:=x5.f1) (by omega) o1 (by omega) hw1
  rw [hpu,Option.bind_some,hpv,Option.bind_some,bX (x:=pu*4000000) (by omega),bX (x:=pv*4000000) (by omega)]
  have hgo:=at5 s v x3 x4 x6 (rG s v x4 x2 x3 0 []).1 hSV (acE hse) hVN hall (by omega) g6.1 ⟨v6,v7⟩ x4.length 0 K x2 (pu*4000000) (pv*4000000) x3 [] (Nat.zero_add _) (by omega) (by simp) (by rw [List.drop_zero];exact hr0) (by rw [List.drop_zero];rfl) hBX (by unfold LB;omega) rfl
  exact hgo
 exact ⟨4000+2,main 4000 (Nat.le_refl _)⟩
end Go.Proofs.Ytmhaiihjfgfaoaa.Pure
end
