import Derived.Below
import Derived.Deep.Draws
import Derived.Deep.AppendLies
import Derived.Maps.AppendAt
import Derived.OwnWalk
import Derived.Laws.BytesArg
import Derived.Laws.MakeOwn
import Derived.Laws.OwnMore
import Derived.Deep.OwnRows
import Derived.Tactics
import Derived.Lib.ConvBytes
import Derived.Laws.Slices
import Derived.WalkKit
import Derived.KernelRfl
import Derived.RowKit3
import Derived.Deep.LoopGhost
import Derived.Deep.QuietTactic
import Derived.BigQuiet
import Derived.WideLaws
import Derived.Deep.DeepCutAuto
import Derived.Deep.CutBlock
import Derived.Deep.RegionHeld3
import Derived.Laws.Rows
import Derived.Lib.AppendStr
import Derived.ArgAppend
import Derived.Laws.IdiomCopy
import Derived.RowKit
import Derived.OrdersHeld
import Derived.Laws.BitsLemmas
import Derived.Laws.StructEq
import Derived.Test.YtmhaiihjfgfaoaaProg
section
set_option linter.unusedVariables false
set_option linter.unusedSimpArgs false
namespace Go.Proofs.YtmhaiihjfgfaoaaW.PrintWords
open Go.RowKit
structure aj (p:Prop):Prop where mk :: (out:p)
structure qG (w w':World):Prop where mk :: (out:∃ n,w' = w.drewN n)
theorem qG.refl (w:World):qG w w:=⟨⟨0,rfl⟩⟩
theorem qG.step {w w':World} (h:qG w w') (n:Nat):qG w (w'.drewN n):=by
 obtain ⟨m,rfl⟩:=h
 exact ⟨⟨m+n,World.drewN_drewN ..⟩⟩
theorem qG.below {w w':World} (h:qG w w'):Below w.heap.size w w':=by
 obtain ⟨n,rfl⟩:=h
 induction n with
 |zero=>exact Below.refl _ _
 |succ n ih=>rw [← World.drew_drewN];exact ih.drew
theorem au {w W:World} (h:Below w.heap.size w W) (o:Obj):Below w.heap.size w (W.alloc o):=h.alloc h.size o
theorem Sm {B:Nat} {w W:World} (h:Below B w W):Below B w W.drew:=⟨h.os,h.tape,h.output,h.size,h.block⟩
theorem ah {B:Nat} {w W:World} (h:Below B w W) (n:Nat):Below B w (W.drewN n):=⟨h.os,h.tape,h.output,h.size,h.block⟩
theorem Sn {B:Nat} {w w1 w2:World} (h:Below B w w1) (hB:B≤w1.heap.size) (k:Below w1.heap.size w1 w2):Below B w w2 :=
 h.trans ⟨k.os,k.tape,k.output,k.size,fun i hi=>k.block i (Nat.lt_of_lt_of_le hi hB)⟩
theorem Mw {w w1:World} (h:Below w.heap.size w w1) {a:Addr} {v:Value} (hc:w.cell? a = some v):w1.cell? a = some v:=(h.cell (World.block_lt_of_cell? w a hc)).trans hc
theorem add_plain (g j:Nat):(⟨g,0,none⟩:Addr).add j = ⟨g,j,none⟩:=by unfold Addr.add;split <;> simp_all
theorem aeC (W:World) (base:Nat) (e:TypeId) (size:Nat):W.ownsRow base e size (.slice none 0 0) 0 []:=⟨by simp,.inl ⟨rfl,rfl⟩⟩
theorem Ll {w:World} {base:Nat} {e:TypeId} {size n:Nat} {v:Value} {xs:List Value} (h:w.ownsRow base e size v n xs) (k:Nat) (hk:v.ownBlock = some k):base≤k:=by
 rcases h.2 with ⟨rfl,_⟩|⟨g,cap,cur,rfl,hb,_⟩
 ·simp [Value.ownBlock] at hk
 ·have:g = k:=by simpa [Value.ownBlock] using hk
  omega
theorem aht {w:World} {base:Nat} {e:TypeId} {size n:Nat} {v:Value} {xs:List Value} (h:w.ownsRow base e size v n xs) (k:Nat) (hk:v.ownBlock = some k):k < w.heap.size:=by
 rcases h.2 with ⟨rfl,_⟩|⟨g,cap,cur,rfl,hb,hh,_⟩
 ·simp [Value.ownBlock] at hk
 ·have:g = k:=by simpa [Value.ownBlock] using hk
  subst this
  exact (Array.getElem?_eq_some_iff.1 hh).1
section
variable {P:Program} {ops:Array Oper} {rest:List Oper} {o:Oper} {a:Act} {Q:Exit→Act→World→Prop}
end
section
variable {P:Program}
end
section
variable {P:Program} {ops:Array Oper} {rest:List Oper} {o:Oper} {a:Act} {Q:Exit→Act→World→Prop}
end
def nS {α:Type} (a b:Option α):Prop:=∀ r,a = some r→b = some r
theorem nS.refl {α:Type} (a:Option α):nS a a:=fun _ h=>h
theorem nS.none {α:Type} (b:Option α):nS Option.none b:=fun _ h=>by cases h
theorem nS.trans {α:Type} {a b c:Option α} (h:nS a b) (k:nS b c):nS a c:=fun r hr=>k r (h r hr)
theorem nS.ite {α:Type} {c:Prop} [Decidable c] {a a' b b':Option α} (h:nS a a') (k:nS b b'):nS (if c then a else b) (if c then a' else b'):=by
 split
 ·exact h
 ·exact k
theorem nS.bind {α β:Type} {a a':Option α} {f f':α→Option β} (h:nS a a') (k:∀ x,nS (f x) (f' x)):nS (a.bind f) (a'.bind f'):=by
 intro r hr
 obtain ⟨x,hx,hf⟩:=Option.bind_eq_some_iff.1 hr
 exact Option.bind_eq_some_iff.2 ⟨x,h x hx,k x r hf⟩
theorem I5 {α:Type} {g:Nat→Option α} (h:∀ k,nS (g k) (g (k+1))) (k:Nat):∀ j,nS (g k) (g (k+j))
 |0=>nS.refl _
 |j+1=>(I5 h k j).trans (h (k+j))
theorem yZ {α:Type} {g:Nat→Option α} (h:∀ k,nS (g k) (g (k+1))) {k k':Nat} (hk:k≤k') {r:α} (hr:g k = some r):g k' = some r:=by
 have:=I5 h k (k' - k) r hr
 rwa [Nat.add_sub_cancel' hk] at this
def oU {α:Type} (R:α→List Value→Prop) (size:Nat) (ps:List α) (cs:List Value):Prop :=
 cs.length = ps.length*size∧∀ j p,ps[j]? = some p→R p ((cs.drop (j*size)).take size)
theorem oU.none {α:Type} (R:α→List Value→Prop) (size:Nat):oU R size [] []:=⟨by simp,fun j p h=>by simp at h⟩
theorem oU.snoc {α:Type} {R:α→List Value→Prop} {size:Nat} {ps:List α} {cs c:List Value} {p:α} (h:oU R size ps cs) (hp:R p c) (hc:c.length = size):oU R size (ps++[p]) (cs++c):=by
 refine ⟨by rw [List.length_append,h.1,hc,List.length_append,List.length_singleton,Nat.add_mul,Nat.one_mul],fun j q hq=>?_⟩
 rcases Nat.lt_or_ge j ps.length with hj|hj
 ·rw [List.getElem?_append_left hj] at hq
  have h1:j*size+size≤cs.length:=by rw [h.1,← Nat.succ_mul];exact Nat.mul_le_mul_right _ hj
  have h2:=h.2 j q hq
  rw [List.drop_append_of_le_length (by omega),List.take_append_of_le_length (by rw [List.length_drop];omega)]
  exact h2
 ·have hj':j = ps.length:=by
   have:=(List.getElem?_eq_some_iff.1 hq).1
   rw [List.length_append,List.length_singleton] at this
   omega
  subst hj'
  have hq':p = q:=by simpa using hq
  subst hq'
  rw [← h.1,List.drop_left,← hc,List.take_length]
  exact hp
theorem oU.Fs {α:Type} {R R':α→List Value→Prop} {size:Nat} {ps:List α} {cs:List Value} (h:oU R size ps cs) (hR:∀ p c,R p c→R' p c):oU R' size ps cs:=⟨h.1,fun j p hj=>hR _ _ (h.2 j p hj)⟩
def nZ {α:Type} (R:α→List Value→Prop) (size:Nat) (w:World) (A:Option Addr) (n:Nat) (ps:List α):Prop :=
 ps.length = n∧n≤9223372036854775807∧(0 < n→∃ ad,A = some ad∧∀ j p,ps[j]? = some p→∃ c,c.length = size∧R p c∧∀ i u,c[i]? = some u→w.cell? (ad.add (j*size+i)) = some u)
theorem nZ.aBb {α:Type} {R:α→List Value→Prop} {size:Nat} {w:World} {A:Option Addr} {n:Nat} {ps:List α} (h:nZ R size w A n ps) (d:α) (i:Int) (h0:0≤i) (h1:i < n):
 ∃ ad c,A = some ad∧c.length = size∧R (ps.getD i.toNat d) c∧∀ j u,c[j]? = some u→w.cell? (ad.add (i.toNat*size+j)) = some u:=by
 obtain ⟨ad,e,hc⟩:=h.2.2 (by omega)
 have hl:i.toNat < ps.length:=by have:=h.1;omega
 obtain ⟨c,hs,hr,hcell⟩:=hc i.toNat _ (List.getElem?_eq_getElem hl)
 refine ⟨ad,c,e,hs,?_,hcell⟩
 rw [List.getD_eq_getElem?_getD,List.getElem?_eq_getElem hl]
 exact hr
theorem nZ.Fs {α:Type} {R R':α→List Value→Prop} {size:Nat} {w w1:World} {A:Option Addr} {n:Nat} {ps:List α} (h:nZ R size w A n ps) (hb:Below w.heap.size w w1) (hR:∀ p c,R p c→R' p c):nZ R' size w1 A n ps :=
 ⟨h.1,h.2.1,fun hn=>by
  obtain ⟨ad,e,hc⟩:=h.2.2 hn
  refine ⟨ad,e,fun j p hj=>?_⟩
  obtain ⟨c,hs,hr,hcell⟩:=hc j p hj
  exact ⟨c,hs,hR _ _ hr,fun i u hu=>Mw hb (hcell i u hu)⟩⟩
theorem Mx {α:Type} {R:α→List Value→Prop} {w:World} {base n size:Nat} {e:TypeId} {v:Value} {ps:List α} {cs:List Value} (h:w.ownsRow base e size v n cs) (hR:oU R size ps cs) (hn:ps.length = n):
 ∃ A c,v = .slice A n c∧nZ R size w A n ps:=by
 rcases Nat.eq_zero_or_pos n with h0|h0
 ·rcases h.2 with ⟨rfl,rfl⟩|⟨g,cap,cur,rfl,_⟩
  ·exact ⟨none,0,rfl,hn,by omega,fun hp=>absurd hp (by omega)⟩
  ·exact ⟨_,cap,rfl,hn,by omega,fun hp=>absurd hp (by omega)⟩
 ·obtain ⟨g,cap,rfl,_,_⟩:=h.form h0
  have hm:n≤9223372036854775807:=by
   rcases h.2 with ⟨_,h1⟩|⟨g',cap',cur,he,_,_,h1,h2,_⟩
   ·omega
   ·simp only [maxLen] at h2
    omega
  refine ⟨_,cap,rfl,hn,hm,fun _=>⟨_,rfl,fun j p hj=>⟨(cs.drop (j*size)).take size,?_,hR.2 j p hj,fun i u hu=>?_⟩⟩⟩
  ·have hjl:=(List.getElem?_eq_some_iff.1 hj).1
   have h1:j*size+size≤cs.length:=by rw [hR.1,← Nat.succ_mul];exact Nat.mul_le_mul_right _ hjl
   rw [List.length_take,List.length_drop]
   omega
  ·refine h.cells (g:=g) rfl _ u ?_
   rw [List.getElem?_take] at hu
   split at hu
   ·rw [List.getElem?_drop] at hu
    exact hu
   ·cases hu
theorem zt (ad:Addr) (m j:Nat) (hj:0 < j):ad.add (m+j) = ⟨(ad.add m).block,(ad.add m).off+j,none⟩:=by
 unfold Addr.add
 by_cases hm:m = 0
 ·subst hm
  simp [Nat.ne_of_gt hj]
 ·simp [hm,Nat.add_assoc]
section
variable {P:Program} {ops:Array Oper} {rest:List Oper} {o:Oper} {a:Act} {Q:Exit→Act→World→Prop}
theorem Ec {w0 W:World} (base:Nat) (hgd:o.guard = none) (s x:Operand) (t e:TypeId) (z:Value) (size bytes:Nat)
 (ho:o.op = .call { callee:=.builtin .append,args:=#[s,x],argTypes:=#[t,t] })
 (ht:P.underlying t = some (.slice e)) (hinfo:(P.info? e).map (fun i=>(i.zero,i.size,i.bytes)) = some (some z,size,bytes)) (hz:z.cells.size = size) (hs0:0 < size) (hb0:0 < bytes)
 (v:Value) (n:Nat) (xs ys:List Value) (hs:a.eval s = v) (hx:a.eval x = .slice (some ⟨W.heap.size,0,none⟩) 1 1) (hys:ys.length = size) (h1:∀ u ∈ ys,u.oneCell' = true)
 (HO:W.ownsRow base e size v n xs) (HB:Below base w0 W) (hbase:base≤W.heap.size) (hl:(n+1)*bytes≤140737488355328)
 (h:∀ v1 w1,w1.ownsRow base e size v1 (n+1) (xs++ys)→Below base w0 w1→W.grownBy w1 v.ownBlock→(v1.ownBlock = v.ownBlock∨∃ b,v1.ownBlock = some b∧W.heap.size≤b)→wpList P ops Q rest (a.put o.dst v1) w1):
 wpList P ops Q (o :: rest) a (W.alloc (.cells ys.toArray e)):=by
 obtain ⟨i0,hi,hzz⟩:=Option.map_eq_some_iff.1 hinfo
 simp only [Prod.mk.injEq] at hzz
 obtain ⟨hz0,hz1,hz2⟩:=hzz
 have hlen:n+1≤140737488355328:=Nat.le_trans (Nat.le_mul_of_pos_right _ hb0) hl
 refine wpList_append_own_at (W.alloc (.cells ys.toArray e)) hgd s x t ho base e i0 z size bytes ht hi hz0 hz1 hz2 hz hs0 v n xs hs (HO.alloc _) ⟨W.heap.size,0,none⟩ 1 1 ys hx (by rw [hys];simp)
  (by simpa using World.news_of_block (cs:=ys.toArray) (t:=e) (fr:=(0,0)) (heap_alloc_new W (.cells ys.toArray e))) h1 (by simp only [maxLen];omega) hl (by simp;omega) ?_
 intro v1 w1 hown hg _ hat
 refine h v1 w1 hown ((HB.alloc hbase _).grown hg (by simp;omega) (Ll HO)) (World.grownBy.trans (World.grownBy_alloc W _ _) hg) ?_
 rcases hat with hat|hat
 ·exact .inl hat
 ·exact .inr ⟨_,hat,by simp⟩
end
theorem own_ne {w:World} {base:Nat} {e t:TypeId} {size n g:Nat} {v:Value} {xs:List Value} {cs:Array Value} (h:w.ownsRow base e size v n xs) (hg:w.heap[g]? = some (.cells cs t (0,0))) (hne:e≠t):some g≠v.ownBlock:=by
 rcases h.2 with ⟨rfl,_⟩|⟨g',cap,cur,rfl,_,hh,_⟩
 ·simp [Value.ownBlock]
 ·intro he
  have:g = g':=by simpa [Value.ownBlock] using he
  subst this
  rw [hg] at hh
  injection hh with hh
  injection hh with _ ht
  exact hne ht.symm
theorem WU {w:World} {g:Nat} {t:TypeId} {cs:Array Value} (h:w.heap[g]? = some (.cells cs t (0,0))) (i:Nat) (u:Value):(w.setCell ⟨g,i,none⟩ u).heap[g]? = some (.cells (cs.setIfInBounds i u) t (0,0)):=by
 simp [World.setCell,Array.getElem?_modify,h]
theorem az {w:World} {g:Nat} {t:TypeId} {cs:Array Value} (h:w.heap[g]? = some (.cells cs t (0,0))) {p:Addr} (hp:g≠p.block) (u:Value):(w.setCell p u).heap[g]? = some (.cells cs t (0,0)):=(Below.heap_setCell w p u g hp).trans h
theorem aU {w:World} {g:Nat} {o:Obj} (h:w.heap[g]? = some o):g < w.heap.size:=(Array.getElem?_eq_some_iff.1 h).1
theorem aa {w:World} {g:Nat} {t:TypeId} {cs:Array Value} (h:w.heap[g]? = some (.cells cs t (0,0))) (i:Nat):w.cell? ⟨g,i,none⟩ = cs[i]?:=cell_of_row w g i cs t (0,0) h
theorem ae {w:World} {g:Nat} {t:TypeId} {cs:Array Value} (h:w.heap[g]? = some (.cells cs t (0,0))) (i:Nat):w.frozen? ⟨g,i,none⟩ = false:=by simp [World.frozen?,h]
theorem jY {w w1:World} {g:Nat} {o:Obj} {row:Option Nat} (h:w.heap[g]? = some o) (hg:w.grownBy w1 row) (hne:some g≠row):w1.heap[g]? = some o:=(hg.block g (aU h) hne).trans h
section
variable {P:Program} {ops:Array Oper} {o:Oper} {a:Act} {Q:Exit→Act→World→Prop} {K:Act→World→Prop}
end
theorem Sq {w:World} {base base':Nat} {e:TypeId} {size n:Nat} {v:Value} {xs:List Value} (h:w.ownsRow base e size v n xs) (hb:base'≤base):w.ownsRow base' e size v n xs:=by
 obtain ⟨h1,h2⟩:=h
 refine ⟨h1,?_⟩
 rcases h2 with h2|⟨g,cap,cur,rfl,hg,r⟩
 ·exact .inl h2
 ·exact .inr ⟨g,cap,cur,rfl,Nat.le_trans hb hg,r⟩
section
variable {α:Type} {enc:α→Value} {d:α}
def encs (enc:α→Value) (xs:List α):List Value:=xs.map enc
def PE (d:α) (xs:List α) (i:Int):α:=xs.getD i.toNat d
def Ka (enc:α→Value) (d:α) (w:World) (A:Option Addr) (n:Nat) (xs:List α):Prop :=
 xs.length = n∧n≤9223372036854775807∧(0 < n→∃ ad,A = some ad∧∀ j,j < n→w.cell? (ad.add j) = some (enc (xs.getD j d)))
theorem Ka.at_ {w:World} {A:Option Addr} {n:Nat} {xs:List α} (h:Ka enc d w A n xs) (i:Int) (h0:0≤i) (h1:i < n):∃ ad,A = some ad∧w.cell? (ad.add i.toNat) = some (enc (PE d xs i)):=by
 obtain ⟨ad,e,hc⟩:=h.2.2 (by omega)
 exact ⟨ad,e,hc _ (by omega)⟩
end
section
variable {α:Type} {P:Program} {ops:Array Oper} {rest:List Oper} {o:Oper} {a:Act} {Q:Exit→Act→World→Prop}
end
theorem af {w:World} {g:Nat} {o:Obj} (h:w.heap[g]? = some o) (o':Obj):(w.alloc o').heap[g]? = some o:=(Below.heap_alloc w o' g (aU h)).trans h
theorem ai {w:World} {g:Nat} {o:Obj} (h:w.heap[g]? = some o):w.drew.heap[g]? = some o:=h
theorem ag {w:World} {g:Nat} {o:Obj} (h:w.heap[g]? = some o) (n:Nat):(w.drewN n).heap[g]? = some o:=h
theorem ax {w w1:World} {g:Nat} {o:Obj} (h:w.heap[g]? = some o) (hb:Below w.heap.size w w1):w1.heap[g]? = some o:=(hb.block g (aU h)).trans h
theorem fK (w:World) (o:Obj):(w.alloc o).heap[w.heap.size]? = some o:=heap_alloc_new w o
section
variable {P:Program}
theorem iw {fn:Func} {p u:Tmp} {ty:TypeId} (h:fn.results = #[.cell p ty,.tmp u]) (tmps:Array Value) (w:World) (g:Nat) (t:TypeId) (cs:Array Value) (fr:Nat × Nat) (d:TypeDesc)
 (hp:tmps.getD p undef = .pointer (some ⟨g,0,none⟩)) (hg:w.heap[g]? = some (.cells cs t fr))
 (hu:P.underlying ty = some d) (hd:(match d with|.struct _|.array _ _=>true|_=>false) = true) (hi:(P.info? ty).map (·.size) = some cs.size):
 (results fn tmps).run P w = .ok (.tuple #[.agg cs,tmps.getD u undef]) w:=by
 have hp':tmps[p]?.getD undef = .pointer (some ⟨g,0,none⟩):=by simpa using hp
 simp [results,h,hp',asAddr,run_loadVar_row w g t ty cs fr d hg hu hd hi]
theorem Sr {fn:Func} {p p':Tmp} {ty ty':TypeId} (h:fn.results = #[.cell p ty,.cell p' ty']) (tmps:Array Value) (w:World) (g g':Nat) (t t':TypeId) (cs cs':Array Value) (fr fr':Nat × Nat) (d d':TypeDesc)
 (hp:tmps.getD p undef = .pointer (some ⟨g,0,none⟩)) (hg:w.heap[g]? = some (.cells cs t fr))
 (hu:P.underlying ty = some d) (hd:(match d with|.struct _|.array _ _=>true|_=>false) = true) (hi:(P.info? ty).map (·.size) = some cs.size)
 (hp':tmps.getD p' undef = .pointer (some ⟨g',0,none⟩)) (hg':w.heap[g']? = some (.cells cs' t' fr'))
 (hu':P.underlying ty' = some d') (hd':(match d' with|.struct _|.array _ _=>true|_=>false) = true) (hi':(P.info? ty').map (·.size) = some cs'.size):
 (results fn tmps).run P w = .ok (.tuple #[.agg cs,.agg cs']) w:=by
 have h1:tmps[p]?.getD undef = .pointer (some ⟨g,0,none⟩):=by simpa using hp
 have h2:tmps[p']?.getD undef = .pointer (some ⟨g',0,none⟩):=by simpa using hp'
 simp [results,h,h1,h2,asAddr,run_loadVar_row w g t ty cs fr d hg hu hd hi,run_loadVar_row w g' t' ty' cs' fr' d' hg' hu' hd' hi']
end
theorem ahu {w:World} {base n m c size:Nat} {e:TypeId} {A:Option Addr} {xs:List Value} (h:w.ownsRow base e size (.slice A m c) n xs):m≤c:=by
 rcases h.2 with ⟨he,_⟩|⟨g,cap,cur,he,_,_,hnc,_⟩
 ·injection he with _ h2 h3
  omega
 ·injection he with _ h2 h3
  omega
def uI {α:Type} (R:α→List Value→Prop) (e:TypeId) (size:Nat) (w:World) (base:Nat) (v:Value) (ps:List α):Prop :=
 ∃ inner,w.ownsRow base e size v ps.length inner∧oU R size ps inner
section
variable {α:Type} {R R':α→List Value→Prop} {e:TypeId} {size:Nat} {w w1:World} {base:Nat} {v:Value} {ps:List α}
theorem uI.none_ (R:α→List Value→Prop) (e:TypeId) (size:Nat) (w:World) (base:Nat):uI R e size w base (.slice none 0 0) []:=⟨[],aeC _ _ _ _,oU.none _ _⟩
theorem uI.Fs (h:uI R e size w base v ps) (hR:∀ p c,R p c→R' p c):uI R' e size w base v ps:=by
 obtain ⟨inner,ho,hr⟩:=h
 exact ⟨inner,ho,hr.Fs hR⟩
theorem uI.reads (h:uI R e size w base v ps):∃ A c,v = .slice A ps.length c∧ps.length≤c∧nZ R size w A ps.length ps:=by
 obtain ⟨inner,ho,hr⟩:=h
 obtain ⟨A,c,rfl,hrow⟩:=Mx ho hr rfl
 exact ⟨A,c,rfl,ahu ho,hrow⟩
theorem uI.ZT (h:uI R e size w base v ps) {g:Nat} {t:TypeId} {cells:Array Value} (hb:w.heap[g]? = some (.cells cells t (0,0))) (ht:e≠t):some g≠v.ownBlock:=by
 obtain ⟨inner,ho,hr⟩:=h
 exact own_ne ho hb ht
end
section
variable {P:Program} {ops:Array Oper} {rest:List Oper} {o:Oper} {a:Act} {Q:Exit→Act→World→Prop} {α:Type} {R:α→List Value→Prop}
end
section
variable {P:Program} {ops:Array Oper} {o:Oper} {a:Act} {Q:Exit→Act→World→Prop} {K:Act→World→Prop} {α:Type} {R:α→List Value→Prop}
end
theorem nZ.ahv {α:Type} {R:α→List Value→Prop} {size:Nat} {w:World} {ad:Addr} {n:Nat} {ps:List α} (h:nZ R size w (some ad) n ps):
 ∃ inner,oU R size ps inner∧∀ j u,inner[j]? = some u→w.cell? (ad.add j) = some u:=by
 have key:∀ m,m≤ps.length→∃ inner,oU R size (ps.take m) inner∧∀ j u,inner[j]? = some u→w.cell? (ad.add j) = some u:=by
  intro m
  induction m with
  |zero=>exact fun _=>⟨[],oU.none _ _,fun j u hu=>by simp at hu⟩
  |succ m ih =>
   intro hm
   obtain ⟨inner,hr,hc⟩:=ih (by omega)
   obtain ⟨ad',he,hcell⟩:=h.2.2 (by have:=h.1;omega)
   injection he with he
   subst he
   obtain ⟨c,hcl,hp,hcc⟩:=hcell m _ (List.getElem?_eq_getElem (show m < ps.length by omega))
   refine ⟨inner++c,?_,fun j u hu=>?_⟩
   ·rw [List.take_succ_eq_append_getElem (show m < ps.length by omega)]
    exact hr.snoc hp hcl
   ·have hil:inner.length = m*size:=by rw [hr.1,List.length_take,Nat.min_eq_left (by omega)]
    rcases Nat.lt_or_ge j inner.length with hj|hj
    ·rw [List.getElem?_append_left hj] at hu
     exact hc j u hu
    ·rw [List.getElem?_append_right hj] at hu
     have:=hcc (j - inner.length) u hu
     rwa [hil,Nat.add_sub_cancel' (by omega)] at this
 obtain ⟨inner,hr,hc⟩:=key ps.length (Nat.le_refl _)
 rw [List.take_length] at hr
 exact ⟨inner,hr,hc⟩
section
variable {α:Type} {P:Program}
end
section
variable {P:Program} {ops:Array Oper} {rest:List Oper} {o:Oper} {a:Act} {Q:Exit→Act→World→Prop}
end
structure Kd (α:Type) where
 sz:Nat
 E:List Nat
 K:World→α→List Value→Prop
 M:World→Nat→(Nat→Prop)→α→List Value→Prop
 xc:∀ {w x cs},K w x cs→cs.length = sz
 xe:∀ {w x cs},K w x cs→∀ u ∈ cs,u.oneCell' = true
 qw:∀ {w w1:World} {x cs},Below w.heap.size w w1→K w x cs→K w1 x cs
 qh:∀ {w base ok x cs},M w base ok x cs→K w x cs
 mI:∀ {w base ok ok' x cs},(∀ k,ok k→ok' k)→M w base ok x cs→M w base ok' x cs
 nH:∀ {w:World} {base ok x cs},M w base ok x cs→M w base (fun k=>ok k∧base≤k∧k < w.heap.size∧∃ q,q ∈ E∧∃ cells,w.heap[k]? = some (.cells cells q (0,0))) x cs
 pV:∀ {w w1:World} {base ok x cs},(∀ k,ok k→w1.heap[k]? = w.heap[k]?)→M w base ok x cs→M w1 base ok x cs
 qx:∀ {w base base' ok x cs},base'≤base→M w base ok x cs→M w base' ok x cs
theorem ZU {w w1:World} {base:Nat} {e:TypeId} {size n:Nat} {v:Value} {xs:List Value} (h:w.ownsRow base e size v n xs) (hm:∀ k,v.ownBlock = some k→w1.heap[k]? = w.heap[k]?):w1.ownsRow base e size v n xs:=by
 obtain ⟨h1,h2⟩:=h
 refine ⟨h1,?_⟩
 rcases h2 with h2|⟨g,cap,cur,rfl,hg,hh,r⟩
 ·exact .inl h2
 ·exact .inr ⟨g,cap,cur,rfl,hg,(hm g (by simp [Value.ownBlock])).trans hh,r⟩
theorem CJ {w:World} {base:Nat} {e:TypeId} {size n:Nat} {v:Value} {xs:List Value} (h:w.ownsRow base e size v n xs) (k:Nat) (hk:v.ownBlock = some k):∃ cells,w.heap[k]? = some (.cells cells e (0,0)):=by
 rcases h.2 with ⟨rfl,_⟩|⟨g,cap,cur,rfl,hg,hh,r⟩
 ·simp [Value.ownBlock] at hk
 ·have:g = k:=by simpa [Value.ownBlock] using hk
  subst this
  exact ⟨cur,hh⟩
namespace Kd
def C {α:Type} (d:Kd α) (w:World) (A:Option Addr) (n:Nat) (xs:List α):Prop:=nZ (d.K w) d.sz w A n xs
def R {α:Type} (d:Kd α) (e:Nat) (w:World) (base:Nat) (ok:Nat→Prop) (v:Value) (xs:List α):Prop :=
 (∀ k,v.ownBlock = some k→ok k)∧uI (d.M w base (fun k=>ok k∧some k≠v.ownBlock)) e d.sz w base v xs
section
variable {α:Type} {d:Kd α} {e:Nat} {w w1:World} {base:Nat} {ok ok':Nat→Prop} {v:Value} {xs:List α}
theorem dF {A:Option Addr} {n:Nat} (h:d.C w A n xs) (hb:Below w.heap.size w w1):d.C w1 A n xs:=nZ.Fs h hb (fun _ _ hp=>d.qw hb hp)
theorem aoB (d:Kd α) (e:Nat) (w:World) (base:Nat) (ok:Nat→Prop):d.R e w base ok (.slice none 0 0) []:=⟨fun k hk=>by simp [Value.ownBlock] at hk,uI.none_ _ _ _ _ _⟩
theorem pU (h:d.R e w base ok v xs) (hok:∀ k,ok k→ok' k):d.R e w base ok' v xs:=⟨fun k hk=>hok k (h.1 k hk),h.2.Fs (fun _ _ hp=>d.mI (fun k hk=>⟨hok k hk.1,hk.2⟩) hp)⟩
theorem Fu (h:d.R e w base ok v xs):d.R e w base (fun k=>ok k∧base≤k∧k < w.heap.size∧∃ q,q ∈ e :: d.E∧∃ cells,w.heap[k]? = some (.cells cells q (0,0))) v xs:=by
 obtain ⟨h0,inner,ho,hr⟩:=h
 refine ⟨fun k hk=>?_,inner,ho,hr.Fs (fun _ _ hp=>d.mI (fun k hk=>?_) (d.nH hp))⟩
 ·obtain ⟨cells,hc⟩:=CJ ho k hk
  exact ⟨h0 k hk,Ll ho k hk,aht ho k hk,e,List.mem_cons_self,cells,hc⟩
 ·obtain ⟨⟨h1,h2⟩,h3,h4,q,hq,hc⟩:=hk
  exact ⟨⟨h1,h3,h4,q,List.mem_cons_of_mem _ hq,hc⟩,h2⟩
theorem Su (h:d.R e w base ok v xs) (hm:∀ k,ok k→w1.heap[k]? = w.heap[k]?):d.R e w1 base ok v xs:=by
 obtain ⟨h0,inner,ho,hr⟩:=h
 exact ⟨h0,inner,ZU ho (fun k hk=>hm k (h0 k hk)),hr.Fs (fun _ _ hp=>d.pV (fun k hk=>hm k hk.1) hp)⟩
theorem vY {base':Nat} (h:d.R e w base ok v xs) (hb:base'≤base):d.R e w base' ok v xs:=by
 obtain ⟨h0,inner,ho,hr⟩:=h
 exact ⟨h0,inner,Sq ho hb,hr.Fs (fun _ _ hp=>d.qx hb hp)⟩
theorem ZV (h:d.R e w base ok v xs) (hm:∀ k,ok k→k < w.heap.size→w1.heap[k]? = w.heap[k]?):d.R e w1 base ok v xs :=
 pU (Su (Fu h) (fun k hk=>hm k hk.1 hk.2.2.1)) (fun _ hk=>hk.1)
theorem ahw {x:α} {cs:List Value} (h:d.M w base ok x cs) (hm:∀ k,ok k→k < w.heap.size→w1.heap[k]? = w.heap[k]?):d.M w1 base ok x cs :=
 d.mI (fun _ hk=>hk.1) (d.pV (fun k hk=>hm k hk.1 hk.2.2.1) (d.nH h))
theorem gL (h:d.R e w base ok v xs) (hb:Below w.heap.size w w1):d.R e w1 base ok v xs:=ZV h (fun k _ hk=>hb.block k hk)
theorem aeD {x:α} {cs:List Value} (h:d.M w base ok x cs) (hb:Below w.heap.size w w1):d.M w1 base ok x cs:=ahw h (fun k _ hk=>hb.block k hk)
theorem fE (h:d.R e w base ok v xs) {p:Addr} (hok:∀ k,ok k→k≠p.block) (u:Value):d.R e (w.setCell p u) base ok v xs:=ZV h (fun k ho _=>Below.heap_setCell w p u k (hok k ho))
theorem nG (h:d.R e w base ok v xs) {g t:Nat} {cells:Array Value} (hb:w.heap[g]? = some (.cells cells t (0,0))) (ht:∀ q,q ∈ e :: d.E→q≠t):d.R e w base (fun k=>ok k∧k≠g) v xs :=
 pU (Fu h) (fun k hk=>⟨hk.1,by
  obtain ⟨_,_,_,q,hq,cells',hc⟩:=hk
  rintro rfl
  rw [hc] at hb
  injection hb with hb
  injection hb with _ hb
  exact ht q hq hb⟩)
theorem PG (h:d.R e w base ok v xs):∃ A c,v = .slice A xs.length c∧xs.length≤c∧d.C w A xs.length xs:=by
 obtain ⟨A,c,he,hl,hr⟩:=uI.reads h.2
 exact ⟨A,c,he,hl,hr.Fs (Below.refl _ _) (fun _ _ hp=>d.qh hp)⟩
theorem pR (h:d.R e w base ok v xs):∃ A c,v = .slice A xs.length c:=by
 obtain ⟨A,c,he,_⟩:=PG h
 exact ⟨A,c,he⟩
theorem agt (h:d.R e w base ok v xs):∃ inner,w.ownsRow base e d.sz v xs.length inner:=by
 obtain ⟨_,inner,ho,_⟩:=h
 exact ⟨inner,ho⟩
theorem AR (h:d.R e w base ok v xs) {g t:Nat} {cells:Array Value} (hb:w.heap[g]? = some (.cells cells t (0,0))) (ht:e≠t):some g≠v.ownBlock:=uI.ZT h.2 hb ht
end
def scalar {α:Type} (enc:α→Value) (h1:∀ x,(enc x).oneCell' = true):Kd α where
 sz:=1
 E:=[]
 K:=fun _ x cs=>cs = [enc x]
 M:=fun _ _ _ x cs=>cs = [enc x]
 xc:=fun h=>by rw [h];rfl
 xe:=fun h u hu=>by
  rw [h] at hu
  rw [List.mem_singleton.1 hu]
  exact h1 _
 qw:=fun _ h=>h
 qh:=fun h=>h
 mI:=fun _ h=>h
 nH:=fun h=>h
 pV:=fun _ h=>h
 qx:=fun _ h=>h
def int (k:IntKind):Kd Int:=scalar (Value.int k) (fun _=>rfl)
def bool:Kd Bool:=scalar Value.bool (fun _=>rfl)
def slice {α:Type} (e:Nat) (d:Kd α):Kd (List α) where
 sz:=1
 E:=e :: d.E
 K:=fun w xs cs=>∃ A c,cs = [.slice A xs.length c]∧xs.length≤c∧d.C w A xs.length xs
 M:=fun w base ok xs cs=>∃ v,cs = [v]∧d.R e w base ok v xs
 xc:=by
  rintro w x cs ⟨A,c,rfl,_⟩
  rfl
 xe:=by
  rintro w x cs ⟨A,c,rfl,_⟩ u hu
  rw [List.mem_singleton.1 hu]
  rfl
 qw:=by
  rintro w w1 x cs hb ⟨A,c,rfl,hl,hr⟩
  exact ⟨A,c,rfl,hl,dF hr hb⟩
 qh:=by
  rintro w base ok x cs ⟨v,rfl,h⟩
  obtain ⟨A,c,rfl,hl,hr⟩:=PG h
  exact ⟨A,c,rfl,hl,hr⟩
 mI:=by
  rintro w base ok ok' x cs hok ⟨v,rfl,h⟩
  exact ⟨v,rfl,pU h hok⟩
 nH:=by
  rintro w base ok x cs ⟨v,rfl,h⟩
  exact ⟨v,rfl,Fu h⟩
 pV:=by
  rintro w w1 base ok x cs hm ⟨v,rfl,h⟩
  exact ⟨v,rfl,Su h hm⟩
 qx:=by
  rintro w base base' ok x cs hb ⟨v,rfl,h⟩
  exact ⟨v,rfl,vY h hb⟩
def pair {α β:Type} (a:Kd α) (b:Kd β):Kd (α × β) where
 sz:=a.sz+b.sz
 E:=a.E++b.E
 K:=fun w x cs=>∃ c0 c1,cs = c0++c1∧a.K w x.1 c0∧b.K w x.2 c1
 M:=fun w base ok x cs=>∃ c0 c1,cs = c0++c1∧a.M w base ok x.1 c0∧b.M w base ok x.2 c1
 xc:=by
  rintro w x cs ⟨c0,c1,rfl,h0,h1⟩
  rw [List.length_append,a.xc h0,b.xc h1]
 xe:=by
  rintro w x cs ⟨c0,c1,rfl,h0,h1⟩ u hu
  rcases List.mem_append.1 hu with hu|hu
  ·exact a.xe h0 u hu
  ·exact b.xe h1 u hu
 qw:=by
  rintro w w1 x cs hb ⟨c0,c1,rfl,h0,h1⟩
  exact ⟨c0,c1,rfl,a.qw hb h0,b.qw hb h1⟩
 qh:=by
  rintro w base ok x cs ⟨c0,c1,rfl,h0,h1⟩
  exact ⟨c0,c1,rfl,a.qh h0,b.qh h1⟩
 mI:=by
  rintro w base ok ok' x cs hok ⟨c0,c1,rfl,h0,h1⟩
  exact ⟨c0,c1,rfl,a.mI hok h0,b.mI hok h1⟩
 nH:=by
  rintro w base ok x cs ⟨c0,c1,rfl,h0,h1⟩
  refine ⟨c0,c1,rfl,a.mI ?_ (a.nH h0),b.mI ?_ (b.nH h1)⟩
  ·rintro k ⟨h2,h3,h4,q,hq,hc⟩
   exact ⟨h2,h3,h4,q,List.mem_append_left _ hq,hc⟩
  ·rintro k ⟨h2,h3,h4,q,hq,hc⟩
   exact ⟨h2,h3,h4,q,List.mem_append_right _ hq,hc⟩
 pV:=by
  rintro w w1 base ok x cs hm ⟨c0,c1,rfl,h0,h1⟩
  exact ⟨c0,c1,rfl,a.pV hm h0,b.pV hm h1⟩
 qx:=by
  rintro w base base' ok x cs hb ⟨c0,c1,rfl,h0,h1⟩
  exact ⟨c0,c1,rfl,a.qx hb h0,b.qx hb h1⟩
def iso {α β:Type} (d:Kd α) (f:β→α):Kd β where
 sz:=d.sz
 E:=d.E
 K:=fun w x cs=>d.K w (f x) cs
 M:=fun w base ok x cs=>d.M w base ok (f x) cs
 xc:=d.xc
 xe:=d.xe
 qw:=d.qw
 qh:=d.qh
 mI:=d.mI
 nH:=d.nH
 pV:=d.pV
 qx:=d.qx
def bot {α:Type} (sz:Nat) (E:List Nat):Kd α where
 sz:=sz
 E:=E
 K:=fun _ _ _=>False
 M:=fun _ _ _ _ _=>False
 xc:=fun h=>h.elim
 xe:=fun h=>h.elim
 qw:=fun _ h=>h
 qh:=fun h=>h
 mI:=fun _ h=>h
 nH:=fun h=>h
 pV:=fun _ h=>h
 qx:=fun _ h=>h
def upto {α:Type} (F:Kd α→Kd α) (sz:Nat) (E:List Nat):Nat→Kd α
 |0=>bot sz E
 |n+1=>F (upto F sz E n)
theorem ZW {α:Type} {d:Kd α} {w:World} {A:Option Addr} {n:Nat} {xs:List α} (h:d.C w A n xs) (z:α) (i:Int) (h0:0≤i) (h1:i < n):
 ∃ ad c,A = some ad∧c.length = d.sz∧d.K w (xs.getD i.toNat z) c∧∀ j u,c[j]? = some u→w.cell? (ad.add (i.toNat*d.sz+j)) = some u:=nZ.aBb h z i h0 h1
theorem Sv {α:Type} {d:Kd α} {e base:Nat} {ok okp:Nat→Prop} {W w1:World} {v v1:Value} {xs:List α} {p:α} {inner cs:List Value} (h0:∀ k,v.ownBlock = some k→ok k) (hr:oU (d.M W base (fun k=>ok k∧some k≠v.ownBlock)) d.sz xs inner) (hp:d.M W base okp p cs) (hokp:∀ k,okp k→ok k∧some k≠v.ownBlock) (hfresh:∀ k,W.heap.size≤k→ok k)
 (hown:w1.ownsRow base e d.sz v1 (xs.length+1) (inner++cs)) (hg:W.grownBy w1 v.ownBlock) (hat:v1.ownBlock = v.ownBlock∨∃ b,v1.ownBlock = some b∧W.heap.size≤b):d.R e w1 base ok v1 (xs++[p]):=by
 have hne:∀ k,some k≠v.ownBlock→k < W.heap.size→some k≠v1.ownBlock:=by
  intro k hk hlt
  rcases hat with hat|⟨b,hb,hle⟩
  ·rw [hat];exact hk
  ·rw [hb]
   intro he
   injection he with he
   omega
 have step:∀ {q:α} {c:List Value} {o:Nat→Prop},d.M W base o q c→(∀ k,o k→ok k∧some k≠v.ownBlock)→d.M w1 base (fun k=>ok k∧some k≠v1.ownBlock) q c:=by
  intro q c o hq ho
  have h1:=d.pV (w1:=w1) (fun k hk=>hg.block k hk.2.2.1 (ho k hk.1).2) (d.nH hq)
  exact d.mI (fun k hk=>⟨(ho k hk.1).1,hne k (ho k hk.1).2 hk.2.2.1⟩) h1
 refine ⟨fun k hk=>?_,inner++cs,by rw [List.length_append,List.length_singleton];exact hown,?_⟩
 ·rcases hat with hat|⟨b,hb,hle⟩
  ·exact h0 k (hat ▸ hk)
  ·rw [hb] at hk
   injection hk with hk
   exact hfresh k (by omega)
 ·exact (hr.Fs (fun _ _ hq=>step hq (fun _ hk=>hk))).snoc (step hp hokp) (d.xc (d.qh hp))
section
variable {P:Program} {ops:Array Oper} {rest:List Oper} {o:Oper} {a:Act} {Q:Exit→Act→World→Prop} {α:Type}
theorem ZX (d:Kd α) {w0 W:World} (base:Nat) (hgd:o.guard = none) (s x:Operand) (t e:TypeId) (z:Value) (bytes:Nat)
 (ho:o.op = .call { callee:=.builtin .append,args:=#[s,x],argTypes:=#[t,t] })
 (ht:P.underlying t = some (.slice e)) (hinfo:(P.info? e).map (fun i=>(i.zero,i.size,i.bytes)) = some (some z,d.sz,bytes)) (hz:z.cells.size = d.sz) (hs0:0 < d.sz) (hb0:0 < bytes)
 (v:Value) (xs:List α) (p:α) (cs:List Value) (ok okp:Nat→Prop) (hs:a.eval s = v) (hx:a.eval x = .slice (some ⟨W.heap.size,0,none⟩) 1 1) (hp:d.M W base okp p cs) (hokp:∀ k,okp k→ok k∧some k≠v.ownBlock) (hfresh:∀ k,W.heap.size≤k→ok k)
 (HO:d.R e W base ok v xs) (HB:Below base w0 W) (hbase:base≤W.heap.size) (hl:(xs.length+1)*bytes≤140737488355328)
 (h:∀ v1 w1,d.R e w1 base ok v1 (xs++[p])→Below base w0 w1→W.grownBy w1 v.ownBlock→(v1.ownBlock = v.ownBlock∨∃ b,v1.ownBlock = some b∧W.heap.size≤b)→wpList P ops Q rest (a.put o.dst v1) w1):
 wpList P ops Q (o :: rest) a (W.alloc (.cells cs.toArray e)):=by
 obtain ⟨h0,inner,hown,hr⟩:=HO
 refine Ec base hgd s x t e z d.sz bytes ho ht hinfo hz hs0 hb0 v xs.length inner cs hs hx (d.xc (d.qh hp)) (d.xe (d.qh hp)) hown HB hbase hl ?_
 intro v1 w1 hown1 hb1 hg1 aoC
 exact h v1 w1 (Sv h0 hr hp hokp hfresh hown1 hg1 aoC) hb1 hg1 aoC
end
section
variable {P:Program} {ops:Array Oper} {o:Oper} {a:Act} {Q:Exit→Act→World→Prop} {Kc:Act→World→Prop} {α:Type}
end
theorem Sw {α:Type} {enc:α→Value} {d:α} {h1:∀ x,(enc x).oneCell' = true} {w:World} {A:Option Addr} {n:Nat} {xs:List α} (h:(scalar enc h1).C w A n xs):Ka enc d w A n xs:=by
 refine ⟨h.1,h.2.1,fun hn=>?_⟩
 obtain ⟨ad,e,hc⟩:=h.2.2 hn
 refine ⟨ad,e,fun j hj=>?_⟩
 have hl:j < xs.length:=by have:=h.1;omega
 obtain ⟨c,_,hK,hcell⟩:=hc j _ (List.getElem?_eq_getElem hl)
 have hK':c = [enc xs[j]]:=hK
 subst hK'
 have:=hcell 0 _ rfl
 simpa [scalar,List.getD_eq_getElem?_getD,List.getElem?_eq_getElem hl] using this
end Kd
namespace Kd
section
variable {α:Type} {F:Kd α→Kd α} {sz:Nat} {E:List Nat} {hs:∀ n,(upto F sz E n).sz = sz} {hE:∀ n q,q ∈ (upto F sz E n).E→q ∈ E}
end
end Kd
namespace Kd
end Kd
namespace Kd
section
variable {α β:Type} {d:Kd α} {d':Kd β} {e e':Nat} {w w1 W:World} {base b b':Nat} {ok ok' okv oku:Nat→Prop} {v u:Value} {xs:List α} {ys:List β}
theorem fF (h:d.R e w base ok v xs):d.R e w.drew base ok v xs:=gL h (Sm (Below.refl _ _))
theorem iF {A:Option Addr} {n c:Nat} (h:d.R e w base ok (.slice A n c) xs):n = xs.length∧n≤c∧d.C w A xs.length xs:=by
 obtain ⟨A',c',he,hl,hr⟩:=PG h
 injection he with h1 h2 h3
 subst h1
 exact ⟨h2,by omega,hr⟩
theorem agO (h:d.R e w base ok v xs) (hp:0 < xs.length):∃ g cap,v = .slice (some ⟨g,0,none⟩) xs.length cap∧base≤g∧g < w.heap.size∧∃ cells,w.heap[g]? = some (.cells cells e (0,0)):=by
 obtain ⟨inner,ho⟩:=agt h
 obtain ⟨g,cap,he,hb,hl⟩:=ho.form hp
 obtain ⟨cells,hc⟩:=CJ ho g (by rw [he];simp [Value.ownBlock])
 exact ⟨g,cap,he,hb,hl,cells,hc⟩
end
section
variable {w W:World} {A:Option Addr} {n:Nat}
theorem aeE {xs:List Bool} (h:Kd.bool.C w A n xs) (i:Int) (h0:0≤i) (h1:i < n):∃ ad,A = some ad∧w.cell? (ad.add i.toNat) = some (.bool (PE false xs i)) :=
 Ka.at_ (Sw (enc:=Value.bool) (d:=false) (h1:=fun _=>rfl) h) i h0 h1
variable {α:Type} {enc:α→Value} {h1:∀ x,(enc x).oneCell' = true} {e base g cap:Nat} {ok:Nat→Prop} {xs:List α}
end
section
variable {P:Program} {ops:Array Oper} {rest:List Oper} {o:Oper} {a:Act} {Q:Exit→Act→World→Prop}
theorem Nf {W w1:World} {v:Value} (hgd:o.guard = none) (hrun:(execOp a.eval o).run P W = .ok (.value v) w1) (h:wpList P ops Q rest (a.put o.dst v) w1):wpList P ops Q (o :: rest) a W:=by
 refine wpList_plain hgd fun K hK=>?_
 unfold Oper.wp
 rw [hrun]
 exact hK _ _ h
variable {α:Type}
theorem MQ (d:Kd α) {w0 W:World} (base e:Nat) (hgd:o.guard = none) {N:Tmp} (_hd:o.dst = some N) {xs:List α} {inner:List Value} {ok okp:Nat→Prop}
 (hrun:(execOp a.eval o).run P W = .ok (.value (.slice (some ⟨W.heap.size,0,none⟩) xs.length xs.length)) (W.alloc (.cells inner.toArray e)))
 (hrep:oU (d.M W base okp) d.sz xs inner) (hok:∀ k,okp k→ok k) (hfresh:ok W.heap.size) (HB:Below base w0 W) (hbase:base≤W.heap.size) (hm:xs.length≤9223372036854775807)
 (h:∀ v1 w1,d.R e w1 base ok v1 xs→Below base w0 w1→W.grownBy w1 none→(∃ b,v1.ownBlock = some b∧W.heap.size≤b)→wpList P ops Q rest (a.put o.dst v1) w1):wpList P ops Q (o :: rest) a W:=by
 refine Nf hgd hrun (h _ _ ⟨fun k hk=>?_,inner,?_,?_⟩ (HB.alloc hbase _) (World.grownBy_alloc W _ none) ⟨W.heap.size,by simp [Value.ownBlock],Nat.le_refl _⟩)
 ·have:W.heap.size = k:=by simpa [Value.ownBlock] using hk
  subst this
  exact hfresh
 ·have h2:=World.ownsRow_lit (base:=base) (e:=e) (size:=d.sz) W inner.toArray xs.length hbase (by simpa [maxLen] using hm) (by simpa using hrep.1)
  simpa using h2
 ·refine hrep.Fs (fun p c hp=>d.mI (fun k hk=>⟨hok k hk.1,fun he=>?_⟩) (aeD (d.nH hp) (au (Below.refl _ _) _)))
  have h3:k = W.heap.size:=by simpa [Value.ownBlock] using he
  have:=hk.2.2.1
  omega
theorem YL {α:Type} {R:α→List Value→Prop} {z:Value} {size:Nat} {z0:α} (hz:z.cells.size = size) (hs:0 < size) (h0:R z0 z.cells.toList) (m:Nat):oU R size (List.replicate m z0) (madeCells z.cells (m*size)).toList:=by
 refine ⟨by simp [size_madeCells],fun j p hj=>?_⟩
 obtain ⟨hjl,hp⟩:=List.getElem?_eq_some_iff.1 hj
 have hjm:j < m:=by simpa using hjl
 have hp':z0 = p:=by simpa using hp
 subst hp'
 have hle:j*size+size≤m*size:=by rw [← Nat.succ_mul];exact Nat.mul_le_mul_right _ hjm
 have:((madeCells z.cells (m*size)).toList.drop (j*size)).take size = z.cells.toList:=by
  apply List.ext_getElem
  ·simp [size_madeCells,hz]
   omega
  ·intro i h1 h2
   have hi:i < size:=by rw [Array.length_toList,hz] at h2;exact h2
   have hmod:(j*size+i) % size = i:=by
    rw [Nat.mul_comm,Nat.mul_add_mod]
    exact Nat.mod_eq_of_lt hi
   simp [madeCells,hz,hmod]
   rw [getElem!_pos z.cells i (by omega)]
 rw [this]
 exact h0
theorem ahy (d:Kd α) {w0 W:World} (base e:Nat) (hgd:o.guard = none) {N:Tmp} (hd:o.dst = some N) (t:TypeId) (x y:Operand) (ho:o.op = .makeSlice t x y) (n:Int) (hx:a.eval x = .int .i64 n) (hy:a.eval y = .int .i64 n)
 (ht:P.underlying t = some (.slice e)) (z:Value) (bytes:Nat) (hinfo:(P.info? e).map (fun i=>(i.zero,i.size,i.bytes)) = some (some z,d.sz,bytes)) (hz:z.cells.size = d.sz) (hs0:0 < d.sz) (hb0:0 < bytes)
 (z0:α) {ok okp:Nat→Prop} (hzero:d.M W base okp z0 z.cells.toList) (hok:∀ k,okp k→ok k) (hfresh:ok W.heap.size) (h0:0≤n) (hl:n.toNat*bytes≤281474976710656) (HB:Below base w0 W) (hbase:base≤W.heap.size)
 (h:∀ v1 w1,d.R e w1 base ok v1 (List.replicate n.toNat z0)→Below base w0 w1→W.grownBy w1 none→(∃ b,v1.ownBlock = some b∧W.heap.size≤b)→wpList P ops Q rest (a.put o.dst v1) w1):wpList P ops Q (o :: rest) a W:=by
 obtain ⟨m,rfl⟩:=Int.eq_ofNat_of_zero_le h0
 simp only [Int.toNat_natCast] at hl h
 obtain ⟨i0,hi,hzz⟩:=Option.map_eq_some_iff.1 hinfo
 simp only [Prod.mk.injEq] at hzz
 obtain ⟨hz0,hz1,hz2⟩:=hzz
 have hm:m≤281474976710656:=Nat.le_trans (Nat.le_mul_of_pos_right _ hb0) hl
 have hr:=run_make (P:=P) W t e i0 z ht hi hz0 .i64 .i64 (m:Int) (m:Int) (by omega) (by omega)
  (by
   have h3:((i0.bytes*m:Nat):Int)≤281474976710656:=by rw [hz2,Nat.mul_comm];omega
   rwa [Int.natCast_mul] at h3) (by omega)
 simp only [Int.toNat_natCast] at hr
 rw [hz1] at hr
 refine MQ d base e hgd hd (xs:=List.replicate m z0) (inner:=(madeCells z.cells (m*d.sz)).toList) (okp:=okp) (ok:=ok) ?_ (YL hz hs0 hzero m) hok hfresh HB hbase (by simp;omega) h
 simp [execOp,ho,hx,hy,hr]
end
end Kd
section
variable {P:Program}
end
def aBc (w:World) (base:Nat) (e:TypeId) (size:Nat) (v:Value) (n:Nat) (xs:List Value):Prop :=
 xs.length = n*size∧
 ((n = 0∧∃ A,v = .slice A 0 0∧∀ a,A = some a→base≤a.block∧∃ cur,w.heap[a.block]? = some (.cells cur e (0,0)))∨
  ∃ g off cap cur,v = .slice (some ⟨g,off*size,none⟩) n cap∧base≤g∧w.heap[g]? = some (.cells cur e (0,0))∧n≤cap∧off+cap≤maxLen∧cur.size = (off+cap)*size∧(cur.toList.drop (off*size)).take (n*size) = xs)
section
variable {w w1:World} {base n size:Nat} {e:TypeId} {v:Value} {xs:List Value}
theorem Fv {g:Nat}:∀ (vs:List Value) (o:Nat) {w:World} (k:Nat),k≠g→(w.setCells g o vs).heap[k]? = w.heap[k]?
 |[],_,_,_,_=>rfl
 |v :: r,o,w,k,hk=>by
  rw [World.setCells,Fv r (o+1) k hk]
  exact Below.heap_setCell w ⟨g,o,none⟩ v k hk
theorem DD (g:Nat):∀ (vs:List Value) (o:Nat) (w:World),(w.setCells g o vs).os = w.os∧(w.setCells g o vs).tape = w.tape∧(w.setCells g o vs).output = w.output∧(w.setCells g o vs).heap.size = w.heap.size
 |[],_,_=>⟨rfl,rfl,rfl,rfl⟩
 |v :: r,o,w=>by
  obtain ⟨h1,h2,h3,h4⟩:=DD g r (o+1) (w.setCell ⟨g,o,none⟩ v)
  rw [World.setCells]
  exact ⟨h1,h2,h3,by rw [h4];simp [World.setCell]⟩
theorem Fw {g:Nat} {e:TypeId}:∀ (vs:List Value) (o:Nat) (w:World) (cur:Array Value),w.heap[g]? = some (.cells cur e (0,0))→o+vs.length≤cur.size→
 ∃ cur',(w.setCells g o vs).heap[g]? = some (.cells cur' e (0,0))∧cur'.size = cur.size∧cur'.toList = cur.toList.take o++vs++cur.toList.drop (o+vs.length)
 |[],o,w,cur,h,_=>⟨cur,h,rfl,by simp⟩
 |v :: r,o,w,cur,h,hl=>by
  have h2:=WU h o v
  simp only [List.length_cons] at hl
  obtain ⟨cur',h3,h4,h5⟩:=Fw r (o+1) (w.setCell ⟨g,o,none⟩ v) _ h2 (by simp;omega)
  refine ⟨cur',h3,by rw [h4];simp,?_⟩
  rw [h5,Array.toList_setIfInBounds]
  have ho:o < cur.toList.length:=by rw [Array.length_toList];omega
  rw [List.take_set,List.drop_set_of_lt (by omega)]
  simp only [List.length_cons]
  rw [show o+1+r.length = o+(r.length+1) by omega]
  congr 1
  rw [List.take_succ_eq_append_getElem ho,List.set_append_right _ _ (by rw [List.length_take];omega)]
  have ho':o < cur.size:=by omega
  simp [Nat.min_eq_left (Nat.le_of_lt ho')]
end
section
variable {P:Program}
end
namespace Kd
def Q {α:Type} (d:Kd α) (e:Nat) (w:World) (base:Nat) (ok:Nat→Prop) (v:Value) (xs:List α):Prop :=
 (∀ k,v.ownBlock = some k→ok k)∧∃ inner,aBc w base e d.sz v xs.length inner∧oU (d.M w base (fun k=>ok k∧some k≠v.ownBlock)) d.sz xs inner
section
variable {α:Type} {d:Kd α} {e:Nat} {w w1 W:World} {base:Nat} {ok ok':Nat→Prop} {v:Value} {xs:List α}
end
section
variable {P:Program} {ops:Array Oper} {rest:List Oper} {o:Oper} {a:Act} {Q':Exit→Act→World→Prop} {Kc:Act→World→Prop} {α:Type}
end
end Kd
namespace Kd
section
variable {α:Type} {d:Kd α} {e e':Nat} {w w1 W:World} {base:Nat} {ok:Nat→Prop} {u v:Value} {xs:List α}
theorem aeF (h:d.R e w base ok v xs):∀ k,v.ownBlock = some k→∃ cells,w.heap[k]? = some (.cells cells e (0,0)):=by
 obtain ⟨inner,ho⟩:=agt h
 exact fun k hk=>CJ ho k hk
theorem aeG (h:d.R e W base ok u xs) (hty:∀ k,v.ownBlock = some k→∃ cells,W.heap[k]? = some (.cells cells e' (0,0))) (ht:∀ q,q ∈ e :: d.E→q≠e') (hg:W.grownBy w1 v.ownBlock):d.R e w1 base ok u xs:=by
 refine pU (Su (Fu h) (fun k hk=>hg.block k hk.2.2.1 (fun he=>?_))) (fun _ hk=>hk.1)
 obtain ⟨_,_,_,q,hq,cells,hc⟩:=hk
 obtain ⟨cells',hc'⟩:=hty k he.symm
 rw [hc] at hc'
 injection hc' with hc'
 injection hc' with _ hc'
 exact ht q hq hc'
end
end Kd
theorem Fx {α:Type} (a seg:List α) (o:Nat) (h:o+seg.length≤a.length) (q:Nat):
 (a.take o++seg++a.drop (o+seg.length))[q]? = if q < o then a[q]? else if q < o+seg.length then seg[q - o]? else a[q]?:=by
 have hl:(a.take o).length = o:=by rw [List.length_take];omega
 rw [List.append_assoc]
 by_cases h1:q < o
 ·rw [if_pos h1,List.getElem?_append_left (by omega),List.getElem?_take,if_pos h1]
 ·rw [if_neg h1,List.getElem?_append_right (by omega),hl]
  by_cases h2:q < o+seg.length
  ·rw [if_pos h2,List.getElem?_append_left (by omega)]
  ·rw [if_neg h2,List.getElem?_append_right (by omega),List.getElem?_drop]
   congr 1
   omega
namespace Kd
section
variable {α:Type} {d:Kd α} {e base g n cap:Nat} {ok okp:Nat→Prop} {W:World} {xs:List α}
theorem Zq (h:d.R e W base ok (.slice (some ⟨g,0,none⟩) n cap) xs) (z:α) (i:Int) (h0:0≤i) (h1:i < n):
 ∃ c,c.length = d.sz∧d.M W base (fun k=>ok k∧k≠g) (xs.getD i.toNat z) c∧(∀ j u,c[j]? = some u→W.cell? ⟨g,i.toNat*d.sz+j,none⟩ = some u)∧∀ j,W.frozen? ⟨g,i.toNat*d.sz+j,none⟩ = false:=by
 obtain ⟨hn,hnc,hC⟩:=iF h
 obtain ⟨_,inner,ho,hr⟩:=h
 have hil:i.toNat < xs.length:=by omega
 have hseg:i.toNat*d.sz+d.sz≤inner.length:=by rw [hr.1,← Nat.succ_mul];exact Nat.mul_le_mul_right _ hil
 have hM:=hr.2 i.toNat _ (List.getElem?_eq_getElem hil)
 refine ⟨(inner.drop (i.toNat*d.sz)).take d.sz,by rw [List.length_take,List.length_drop];omega,?_,fun j u hu=>?_,fun j=>?_⟩
 ·rw [List.getD_eq_getElem?_getD,List.getElem?_eq_getElem hil]
  exact d.mI (fun k hk=>⟨hk.1,fun he=>hk.2 (by rw [he];simp [Value.ownBlock])⟩) hM
 ·rw [List.getElem?_take] at hu
  split at hu
  ·rw [List.getElem?_drop] at hu
   have:=ho.cells (g:=g) (by simp [Value.ownBlock]) _ u hu
   rwa [add_plain] at this
  ·cases hu
 ·obtain ⟨cells,hc⟩:=CJ ho g (by simp [Value.ownBlock])
  exact ae hc _
theorem ajX (h:d.R e W base ok (.slice (some ⟨g,0,none⟩) n cap) xs) (i:Int) (h0:0≤i) (h1:i < n) {c seg:List Value} {j:Nat} (hcl:c.length = d.sz) (hcc:∀ j u,c[j]? = some u→W.cell? ⟨g,i.toNat*d.sz+j,none⟩ = some u)
 (hj:j+seg.length≤d.sz) {x':α} (hM:d.M W base okp x' (c.take j++seg++c.drop (j+seg.length))) (hokp:∀ k,okp k→ok k∧k≠g):
 d.R e (W.setCells g (i.toNat*d.sz+j) seg) base ok (.slice (some ⟨g,0,none⟩) n cap) (xs.set i.toNat x')∧W.grownBy (W.setCells g (i.toNat*d.sz+j) seg) (some g):=by
 obtain ⟨hn,hnc,_⟩:=iF h
 obtain ⟨hok,inner,ho,hr⟩:=h
 have hil:i.toNat < xs.length:=by omega
 have hseg:i.toNat*d.sz+d.sz≤inner.length:=by rw [hr.1,← Nat.succ_mul];exact Nat.mul_le_mul_right _ hil
 have hin:inner.length = n*d.sz:=by rw [hr.1,hn]
 obtain ⟨ho1,ho2⟩:=ho
 rcases ho2 with ⟨hv,_⟩|⟨g',cap',cur,hv,hb,hh,hnc',hcm,hcs,ht⟩
 ·cases hv
 injection hv with ha _ hc
 injection ha with ha
 injection ha with hg
 subst hg;subst hc
 have hfit:i.toNat*d.sz+j+seg.length≤cur.size:=by
  have:n*d.sz≤cap*d.sz:=Nat.mul_le_mul_right _ hnc
  omega
 obtain ⟨cur',h3,h4,h5⟩:=Fw seg (i.toNat*d.sz+j) W cur hh hfit
 obtain ⟨s1,s2,s3,s4⟩:=DD g seg (i.toNat*d.sz+j) W
 have hfar:∀ k,k≠g→(W.setCells g (i.toNat*d.sz+j) seg).heap[k]? = W.heap[k]?:=fun k hk=>Fv seg _ k hk
 have hcin:∀ q,q < d.sz→c[q]? = inner[i.toNat*d.sz+q]?:=by
  intro q hq
  have hq':q < c.length:=by omega
  have h6:=hcc q _ (List.getElem?_eq_getElem hq')
  rw [cell_of_row W g _ cur e (0,0) hh] at h6
  rw [List.getElem?_eq_getElem hq',← h6,← ht,List.getElem?_take,if_pos (by rw [← hn];omega),Array.getElem?_toList]
 refine ⟨⟨hok,inner.take (i.toNat*d.sz+j)++seg++inner.drop (i.toNat*d.sz+j+seg.length),⟨?_,.inr ⟨g,cap,cur',by rw [List.length_set,hn],hb,h3,by rw [List.length_set,← hn];exact hnc,hcm,by rw [h4,hcs],?_⟩⟩,?_⟩,
  ⟨s1,s2,s3,by rw [s4];exact Nat.le_refl _,fun k _ hk=>hfar k (fun he=>hk (by rw [he]))⟩⟩
 ·rw [List.length_set]
  simp only [List.length_append,List.length_take,List.length_drop]
  rw [hr.1] at hseg ⊢
  omega
 ·rw [List.length_set,← hn]
  apply List.ext_getElem?
  intro q
  rw [List.getElem?_take,h5]
  rw [Fx cur.toList seg (i.toNat*d.sz+j) (by rw [Array.length_toList];omega) q,Fx inner seg (i.toNat*d.sz+j) (by omega) q]
  have hcur:∀ q,q < n*d.sz→cur.toList[q]? = inner[q]?:=by
   intro q hq
   rw [← ht,List.getElem?_take,if_pos (by rw [← hn];exact hq)]
  by_cases hq:q < n*d.sz
  ·rw [if_pos hq,hcur q hq]
  ·rw [if_neg hq,if_neg (by omega),if_neg (by omega),List.getElem?_eq_none (by omega)]
 ·refine ⟨?_,fun m p hm=>?_⟩
  ·rw [List.length_set]
   simp only [List.length_append,List.length_take,List.length_drop]
   rw [hr.1] at hseg ⊢
   omega
  ·have hml:m < xs.length:=by
    have:=(List.getElem?_eq_some_iff.1 hm).1
    rwa [List.length_set] at this
   have hmfit:m*d.sz+d.sz≤inner.length:=by rw [hr.1,← Nat.succ_mul];exact Nat.mul_le_mul_right _ hml
   have hgo:some g = (Value.slice (some ⟨g,0,none⟩) n cap).ownBlock:=by simp [Value.ownBlock]
   by_cases hmi:m = i.toNat
   ·subst hmi
    rw [List.getElem?_set_self (by omega)] at hm
    injection hm with hm
    subst hm
    have hcells:((inner.take (i.toNat*d.sz+j)++seg++inner.drop (i.toNat*d.sz+j+seg.length)).drop (i.toNat*d.sz)).take d.sz = c.take j++seg++c.drop (j+seg.length):=by
     apply List.ext_getElem?
     intro q
     rw [List.getElem?_take,List.getElem?_drop,Fx inner seg _ (by omega),Fx c seg j (by omega) q]
     by_cases hq:q < d.sz
     ·rw [if_pos hq,hcin q hq]
      by_cases hq1:q < j
      ·rw [if_pos (by omega),if_pos hq1]
      ·rw [if_neg (by omega),if_neg hq1]
       by_cases hq2:q < j+seg.length
       ·rw [if_pos (by omega),if_pos hq2]
        congr 1
        omega
       ·rw [if_neg (by omega),if_neg hq2]
     ·rw [if_neg hq,if_neg (by omega),if_neg (by omega),List.getElem?_eq_none (by omega)]
    rw [hcells]
    refine d.mI (fun k hk=>?_) (d.pV (w1:=W.setCells g (i.toNat*d.sz+j) seg) (fun k hk=>hfar k (hokp k hk).2) hM)
    exact ⟨(hokp k hk).1,fun he=>(hokp k hk).2 (by rw [← hgo] at he;injection he)⟩
   ·rw [List.getElem?_set_ne (by omega)] at hm
    have hold:=hr.2 m p hm
    have hcells:((inner.take (i.toNat*d.sz+j)++seg++inner.drop (i.toNat*d.sz+j+seg.length)).drop (m*d.sz)).take d.sz = (inner.drop (m*d.sz)).take d.sz:=by
     apply List.ext_getElem?
     intro q
     rw [List.getElem?_take,List.getElem?_take,List.getElem?_drop,List.getElem?_drop,Fx inner seg _ (by omega)]
     by_cases hq:q < d.sz
     ·rw [if_pos hq,if_pos hq]
      rcases Nat.lt_or_gt_of_ne hmi with hlt|hgt
      ·have:m*d.sz+d.sz≤i.toNat*d.sz:=by rw [← Nat.succ_mul];exact Nat.mul_le_mul_right _ hlt
       rw [if_pos (by omega)]
      ·have:i.toNat*d.sz+d.sz≤m*d.sz:=by rw [← Nat.succ_mul];exact Nat.mul_le_mul_right _ hgt
       rw [if_neg (by omega),if_neg (by omega)]
     ·rw [if_neg hq,if_neg hq]
    rw [hcells]
    refine d.pV (fun k hk=>hfar k (fun he=>hk.2 (by rw [he];exact hgo))) hold
end
end Kd
namespace Kd
section
variable {α:Type} {F:Kd α→Kd α} {sz:Nat} {E:List Nat} {hs:∀ n,(upto F sz E n).sz = sz} {hE:∀ n q,q ∈ (upto F sz E n).E→q ∈ E}
end
end Kd
namespace Kd
theorem QY {α:Type} {R:α→List Value→Prop} {size:Nat} {ps qs:List α} {cs ds:List Value} (h:oU R size ps cs) (h':oU R size qs ds):oU R size (ps++qs) (cs++ds):=by
 refine ⟨by rw [List.length_append,List.length_append,h.1,h'.1,Nat.add_mul],fun j p hj=>?_⟩
 rcases Nat.lt_or_ge j ps.length with hlt|hge
 ·rw [List.getElem?_append_left hlt] at hj
  have hle:j*size+size≤cs.length:=by rw [h.1,← Nat.succ_mul];exact Nat.mul_le_mul_right _ hlt
  rw [List.drop_append_of_le_length (by omega),List.take_append_of_le_length (by rw [List.length_drop];omega)]
  exact h.2 j p hj
 ·rw [List.getElem?_append_right hge] at hj
  have h2:=h'.2 (j - ps.length) p hj
  have hle:ps.length*size≤j*size:=Nat.mul_le_mul_right _ hge
  rw [List.drop_append,List.drop_eq_nil_of_le (by rw [h.1];exact hle),List.nil_append,h.1,← Nat.sub_mul]
  exact h2
section
variable {P:Program} {ops:Array Oper} {rest:List Oper} {o:Oper} {a:Act} {Q:Exit→Act→World→Prop} {α:Type}
theorem Mg (d:Kd α) {Rr:α→List Value→Prop} {w0 W:World} (base:Nat) (hgd:o.guard = none) (s x:Operand) (t e:TypeId) (z:Value) (bytes:Nat)
 (ho:o.op = .call { callee:=.builtin .append,args:=#[s,x],argTypes:=#[t,t] })
 (ht:P.underlying t = some (.slice e)) (hinfo:(P.info? e).map (fun i=>(i.zero,i.size,i.bytes)) = some (some z,d.sz,bytes)) (hz:z.cells.size = d.sz) (hs0:0 < d.sz) (hb0:0 < bytes)
 (v:Value) (xs ys:List α) (A:Option Addr) (m c:Nat) (ok okp:Nat→Prop) (hs:a.eval s = v) (hx:a.eval x = .slice A m c)
 (HO:d.R e W base ok v xs) (HR:nZ Rr d.sz W A m ys) (hKM:∀ x cs,Rr x cs→d.M W base okp x cs) (hokp:∀ k,okp k→ok k∧some k≠v.ownBlock) (hfresh:∀ k,W.heap.size≤k→ok k)
 (HB:Below base w0 W) (hbase:base≤W.heap.size) (hl:(xs.length+m)*bytes≤140737488355328)
 (h:∀ v1 w1,d.R e w1 base ok v1 (xs++ys)→Below base w0 w1→W.grownBy w1 v.ownBlock→(v1.ownBlock = v.ownBlock∨∃ b,v1.ownBlock = some b∧W.heap.size≤b)→wpList P ops Q rest (a.put o.dst v1) w1):
 wpList P ops Q (o :: rest) a W:=by
 obtain ⟨i0,hi,hzz⟩:=Option.map_eq_some_iff.1 hinfo
 simp only [Prod.mk.injEq] at hzz
 obtain ⟨hz0,hz1,hz2⟩:=hzz
 have hm:ys.length = m:=HR.1
 have hlen:xs.length+m≤140737488355328:=Nat.le_trans (Nat.le_mul_of_pos_right _ hb0) hl
 obtain ⟨hok,inner,hown,hr⟩:=HO
 have hrun:∃ v1 w1,(Builtin.append_ #[t,t] o.type #[v,.slice A m c]).run P W = .ok v1 w1∧d.R e w1 base ok v1 (xs++ys)∧W.grownBy w1 v.ownBlock∧(v1.ownBlock = v.ownBlock∨∃ b,v1.ownBlock = some b∧W.heap.size≤b):=by
  rcases A with _|ad
  ·have h0:m = 0:=by
    rcases Nat.eq_zero_or_pos m with h0|h0
    ·exact h0
    ·obtain ⟨ad,h,_⟩:=HR.2.2 h0
     cases h
   subst h0
   obtain rfl:ys = []:=List.eq_nil_of_length_eq_zero hm
   refine ⟨v,W,?_,by rw [List.append_nil];exact ⟨hok,inner,hown,hr⟩,World.grownBy.refl W _,.inl rfl⟩
   rcases hown.2 with ⟨rfl,hn⟩|⟨g,cap,cur,rfl,_,_,hnc,_⟩
   ·simp [Builtin.append_,run_underlying ht,sizeOf,typeInfo,hi,Builtin.lenOf,Builtin.firstCells]
   ·simp [Builtin.append_,run_underlying ht,sizeOf,typeInfo,hi,Builtin.lenOf,Builtin.firstCells,hnc,storeCells]
  ·obtain ⟨news,hnr,hnc⟩:=nZ.ahv HR
   have hnM:oU (d.M W base okp) d.sz ys news:=hnr.Fs (fun p c hp=>hKM p c hp)
   have hone:∀ u ∈ news,u.oneCell' = true:=by
    intro u hu
    obtain ⟨q,hq,rfl⟩:=List.mem_iff_getElem.1 hu
    have hql:q / d.sz < ys.length:=by
     rw [Nat.div_lt_iff_lt_mul hs0]
     rw [← hnM.1]
     exact hq
    have hc:=hnM.2 (q / d.sz) _ (List.getElem?_eq_getElem hql)
    refine d.xe (d.qh hc) _ ?_
    rw [List.mem_iff_getElem?]
    refine ⟨q % d.sz,?_⟩
    rw [List.getElem?_take,if_pos (Nat.mod_lt _ hs0),List.getElem?_drop,Nat.mul_comm,Nat.div_add_mod,List.getElem?_eq_getElem hq]
   obtain ⟨v1,w1,hrun,h2,hg,_,hat⟩:=run_append_own_at (P:=P) W base t o.type e i0 z d.sz bytes ht hi hz0 hz1 hz2 hz hs0 v xs.length inner hown ad m c news (by rw [hnM.1,hm]) hnc hone (by simp only [maxLen];omega) hl hbase
   have hat':v1.ownBlock = v.ownBlock∨∃ b,v1.ownBlock = some b∧W.heap.size≤b:=by
    rcases hat with hat|hat
    ·exact .inl hat
    ·exact .inr ⟨_,hat,Nat.le_refl _⟩
   have hne:∀ k,some k≠v.ownBlock→k < W.heap.size→some k≠v1.ownBlock:=by
    intro k hk hlt
    rcases hat' with hat|⟨b,hb,hle⟩
    ·rw [hat];exact hk
    ·rw [hb]
     intro he
     injection he with he
     omega
   have step:∀ {q:α} {c:List Value} {o:Nat→Prop},d.M W base o q c→(∀ k,o k→ok k∧some k≠v.ownBlock)→d.M w1 base (fun k=>ok k∧some k≠v1.ownBlock) q c:=by
    intro q c o hq ho
    have h1:=d.pV (w1:=w1) (fun k hk=>hg.block k hk.2.2.1 (ho k hk.1).2) (d.nH hq)
    exact d.mI (fun k hk=>⟨(ho k hk.1).1,hne k (ho k hk.1).2 hk.2.2.1⟩) h1
   refine ⟨v1,w1,hrun,⟨fun k hk=>?_,inner++news,by rw [List.length_append,hm];exact h2,QY (hr.Fs (fun _ _ hq=>step hq (fun _ hk=>hk))) (hnM.Fs (fun _ _ hq=>step hq hokp))⟩,hg,hat'⟩
   rcases hat' with hat|⟨b,hb,hle⟩
   ·exact hok k (hat ▸ hk)
   ·rw [hb] at hk
    injection hk with hk
    exact hfresh k (by omega)
 obtain ⟨v1,w1,hr1,h1,hg,hat⟩:=hrun
 refine wpList_plain hgd fun K hK=>?_
 unfold Oper.wp execOp
 simp only [ho,resolve,invoke,builtin,Sem.run_bind,Sem.run_pure,Result.andThen_ok,List.map_toArray,List.map_cons,List.map_nil,hs,hx,hr1]
 exact hK _ _ (h v1 w1 h1 (HB.grown hg hbase (Ll hown)) hg hat)
end
end Kd
namespace Kd
section
variable {P:Program} {ops:Array Oper} {rest:List Oper} {o:Oper} {a:Act} {Q:Exit→Act→World→Prop} {α:Type}
end
end Kd
namespace Kd
section
variable {α:Type} {k:Kd α} {w:World} {A:Option Addr} {xs:List α} {m c:Nat}
end
end Kd
section
variable {P:Program}
end
theorem aA {w W:World} (h:Below w.heap.size w W):w.heap.size≤W.heap.size:=h.size
theorem ay {w W w2:World} (h:Below w.heap.size w W) (k:Below W.heap.size W w2):Below w.heap.size w w2:=Sn h h.size k
theorem ak {w W:World} {g j:Nat} {v:Value} (h:Below w.heap.size w W) (hg:w.heap.size≤g):Below w.heap.size w (W.setCell ⟨g,j,none⟩ v):=h.setCell hg _
theorem cell_far {W:World} {p a:Addr} (h:a.block≠p.block) (u:Value):(W.setCell p u).cell? a = W.cell? a:=by
 have:=Below.heap_setCell W p u a.block h
 simp [World.cell?,this]
theorem aW {w:World} {g:Nat} {t:TypeId} {cs cs':Array Value} (h:w.heap[g]? = some (.cells cs t (0,0))) (i:Nat) (u:Value) (e:cs.setIfInBounds i u = cs'):(w.setCell ⟨g,i,none⟩ u).heap[g]? = some (.cells cs' t (0,0)):=e ▸ WU h i u
theorem av {base:Nat} {w W:World} (h:Below base w W):Below base w W.drew:=h.drew
namespace Kd
section
variable {α β:Type} {d:Kd α} {d':Kd β} {e e' base base' n:Nat} {ok ok':Nat→Prop} {w W w1 W1:World} {v u:Value} {xs:List α} {ys:List β} {A:Option Addr} {c:Nat}
end
section
variable {α:Type} {enc:α→Value} {h1:∀ x,(enc x).oneCell' = true} {w W:World} {A:Option Addr} {n g:Nat} {xs:List α}
end
end Kd
namespace Kd
section
variable {α:Type} {d:Kd α} {e base g:Nat} {ok:Nat→Prop} {w w1:World} {v:Value} {xs:List α} {o:Obj}
theorem ahz (h:d.R e w1 w.heap.size ok v xs) (hb:w.heap[g]? = some o):d.R e w1 w.heap.size (fun k=>ok k∧k≠g) v xs:=pU (Fu h) (fun k hk=>⟨hk.1,by have:=aU hb;have:=hk.2.1;omega⟩)
end
end Kd
section
variable {P:Program} {ops:Array Oper} {rest:List Oper} {o:Oper} {a:Act} {Q:Exit→Act→World→Prop}
theorem aY {W:World} (hgd:o.guard = none) {N:Tmp} (_hd:o.dst = some N) {cs:Array Value} {t:TypeId}
 (hrun:(execOp a.eval o).run P W = .ok (.value (.pointer (some ⟨W.heap.size,0,none⟩))) (W.alloc (.cells cs t (0,0))))
 (h:∀ g,g = W.heap.size→∀ w1,w1.heap[g]? = some (.cells cs t (0,0))→Below W.heap.size W w1→wpList P ops Q rest (a.put o.dst (.pointer (some ⟨g,0,none⟩))) w1):wpList P ops Q (o :: rest) a W :=
 Kd.Nf hgd hrun (h _ rfl _ (fK W _) (au (Below.refl _ _) _))
end
namespace Kd
section
variable {α:Type} {enc:α→Value} {h1:∀ x,(enc x).oneCell' = true} {e base g n cap:Nat} {ok:Nat→Prop} {W:World} {xs:List α}
end
end Kd
section
variable {P:Program} {ops:Array Oper} {rest:List Oper} {o:Oper} {a:Act} {Q:Exit→Act→World→Prop}
theorem IY {W w1:World} (hgd:o.guard = none) {t:TypeId} {p:Tmp} {v:Operand} (_ho:o.op = .store t (.tmp p) v) (hN:o.dst = none)
 (hrun:(execOp a.eval o).run P W = .ok .skip w1) (h:∀ w',w' = w1→wpList P ops Q rest a w'):wpList P ops Q (o :: rest) a W:=by
 refine wpList_plain hgd fun K hK=>?_
 unfold Oper.wp
 rw [hrun]
 show K (a.put o.dst undef) w1
 rw [hN]
 exact hK _ _ (h _ rfl)
end
namespace Kd
section
variable {α:Type} {enc:α→Value} {h1:∀ x,(enc x).oneCell' = true} {e base g n cap:Nat} {ok:Nat→Prop} {W:World} {xs:List α}
end
end Kd
section
variable {P:Program} {ops:Array Oper} {rest:List Oper} {o:Oper} {a:Act} {Q:Exit→Act→World→Prop} {W:World}
theorem bu {N:Tmp} (_hN:o.dst = some N) (h:wpList P ops Q (o :: rest) a W):wpList P ops Q (o :: rest) a W:=h
theorem KZ {t:TypeId} {p:Tmp} {v:Operand} (_ho:o.op = .store t (.tmp p) v) (h:wpList P ops Q (o :: rest) a W):wpList P ops Q (o :: rest) a W:=h
end
section
variable {P:Program} {ops:Array Oper} {o:Oper} {a:Act} {Q:Exit→Act→World→Prop} {Kc:Act→World→Prop}
theorem Sy {W w1:World} {v:Value} (hw:Region.wanted o (yielded ops a.tmps) = true) (hrun:(execOp a.eval o).run P W = .ok (.value v) w1) (h:Kc (a.put o.dst v) w1):if Region.wanted o (yielded ops a.tmps) = true then Oper.wp P o a W Kc Q else Kc (a.put o.dst undef) W:=by
 rw [if_pos hw]
 unfold Oper.wp
 rw [hrun]
 exact h
theorem Lm {W:World} (hw:Region.wanted o (yielded ops a.tmps) = true) {N:Tmp} (_hd:o.dst = some N) {cs:Array Value} {t:TypeId}
 (hrun:(execOp a.eval o).run P W = .ok (.value (.pointer (some ⟨W.heap.size,0,none⟩))) (W.alloc (.cells cs t (0,0))))
 (h:∀ g,g = W.heap.size→∀ w1,w1.heap[g]? = some (.cells cs t (0,0))→Below W.heap.size W w1→Kc (a.put o.dst (.pointer (some ⟨g,0,none⟩))) w1):if Region.wanted o (yielded ops a.tmps) = true then Oper.wp P o a W Kc Q else Kc (a.put o.dst undef) W :=
 Sy hw hrun (h _ rfl _ (fK W _) (au (Below.refl _ _) _))
namespace Kd
variable {α:Type}
end Kd
end
section
variable {P:Program} {tmps:Array Value} {w:World}
end
namespace Kd
section
variable {P:Program} {α:Type}
end
section
variable {P:Program} {ops:Array Oper} {rest:List Oper} {o:Oper} {a:Act} {Q:Exit→Act→World→Prop} {Kc:Act→World→Prop} {α:Type}
end
end Kd
end Go.Proofs.YtmhaiihjfgfaoaaW.PrintWords
end
section
namespace Go.Proofs.YtmhaiihjfgfaoaaW.PrintLast
section
variable {P:Program} {ops:Array Oper} {Q:Exit→Act→World→Prop} {md:Region.Mode} {S:World→Prop} {ds:List Nat}
def Region.vN (md:Region.Mode) (ops:Array Oper) (i:Nat):Nat→Nat→Bool
 |0,_=>false
 |fuel+1,d=>match ops[d]? with
  |some o=>o.after.any fun e=>Region.binds md e && (e.on == i || Region.vN md ops i fuel e.on)
  |none=>false
def Region.Fy (md:Region.Mode) (ops:Array Oper) (listed:Array Bool):Bool :=
 (List.range ops.size).all fun j=>!listed.getD j false || match ops[j]? with
  |some o=>o.after.all fun e=>!Region.binds md e || listed.getD e.on false
  |none=>true
def Region.lastB (md:Region.Mode) (ops:Array Oper) (listed:Array Bool) (ds:List Nat) (i:Nat):Bool :=
 ds.all fun d=>listed.getD d true || Region.vN md ops i ops.size d
def pW (md:Region.Mode) (ops:Array Oper) (listed:Array Bool):Prop :=
 ∀ j oj,ops[j]? = some oj→listed.getD j false = true→∀ e ∈ oj.after,Region.binds md e = true→listed.getD e.on false = true
theorem Region.PH {listed:Array Bool} (h:Region.Fy md ops listed = true):pW md ops listed:=by
 intro j oj hj hl e he hb
 have hlt:j < ops.size:=(Array.getElem?_eq_some_iff.1 hj).1
 have h1:=List.all_eq_true.1 h j (List.mem_range.2 hlt)
 simp only [hl,hj,Bool.not_true,Bool.false_or] at h1
 have h2:=Array.all_eq_true_iff_forall_mem.1 h1 e he
 simpa [hb] using h2
theorem pW.set {listed:Array Bool} {i:Nat} (h:pW md ops listed) (hi:i ∈ Region.ready md ops listed):pW md ops (listed.setIfInBounds i true):=by
 obtain ⟨_,oi,hoi,hall⟩:=mem_ready.1 hi
 intro j oj hj hl e he hb
 by_cases hij:i = j
 ·subst hij
  have:oj = oi:=Option.some.inj (hj.symm.trans hoi)
  subst this
  exact getD_set_true (hall e he hb)
 ·rw [getD_set_ne false hij] at hl
  exact getD_set_true (h j oj hj hl e he hb)
theorem Region.Fz {listed:Array Bool} {i:Nat} (hc:pW md ops listed):∀ (fuel d:Nat),Region.vN md ops i fuel d = true→listed.getD d false = true→listed.getD i false = true
 |0,_,h,_=>by simp [Region.vN] at h
 |fuel+1,d,h,hl=>by
  unfold Region.vN at h
  cases ho:ops[d]? with
  |none=>rw [ho] at h;simp at h
  |some o =>
   rw [ho] at h
   obtain ⟨e,he,h1⟩:=Array.any_eq_true'.1 h
   simp only [Bool.and_eq_true,Bool.or_eq_true,beq_iff_eq] at h1
   have hle:=hc d o ho hl e he h1.1
   rcases h1.2 with h2|h2
   ·rw [← h2];exact hle
   ·exact Region.Fz hc fuel e.on h2 hle
theorem Region.Jn {listed:Array Bool} {i d fuel:Nat} (hc:pW md ops listed) (hr:Region.vN md ops i fuel d = true) (hun:listed.getD i true = false):d ∉ Region.ready md ops listed:=by
 intro hd
 obtain ⟨_,o,ho,hall⟩:=mem_ready.1 hd
 have hi:listed.getD i false = true:=by
  cases fuel with
  |zero=>simp [Region.vN] at hr
  |succ n =>
   unfold Region.vN at hr
   rw [ho] at hr
   obtain ⟨e,he,h1⟩:=Array.any_eq_true'.1 hr
   simp only [Bool.and_eq_true,Bool.or_eq_true,beq_iff_eq] at h1
   have hle:=hall e he h1.1
   rcases h1.2 with h2|h2
   ·rw [← h2];exact hle
   ·exact Region.Fz hc n e.on h2 hle
 rcases Nat.lt_or_ge i listed.size with h'|h'
 ·simp [h'] at hun hi
  rw [hun] at hi
  cases hi
 ·simp [Array.getElem?_eq_none h'] at hun
def fQ (P:Program) (md:Region.Mode) (ops:Array Oper) (Q:Exit→Act→World→Prop) (S:World→Prop) (ds:List Nat):Nat→Array Bool→Act→World→Prop
 |0,listed,a,w=>Region.ready md ops listed = []∧Q .normal a w
 |fuel+1,listed,a,w =>
  (Region.ready md ops listed = []→Q .normal a w)∧
  ∀ i ∈ Region.ready md ops listed,wpOp P ops Q i (fun a' w'=>(i ∉ ds→S w→S w')∧fQ P md ops Q S ds fuel (listed.setIfInBounds i true) a' w') a w
theorem yM:∀ (fuel:Nat) (listed:Array Bool) (a:Act) (w:World),fQ P md ops Q S ds fuel listed a w→wpAny P md ops Q fuel listed a w
 |0,_,_,_,h=>h
 |fuel+1,_,_,_,h=>⟨h.1,fun i hi=>wpOp_mono (fun a' w' h'=>yM fuel _ a' w' h'.2) (h.2 i hi)⟩
theorem Jo {i:Nat} {oi:Oper} {v:Value} (hi:ops[i]? = some oi) (hsel:∀ (j:Nat) (o:Oper) cs b,ops[j]? = some o→o.op≠.select cs b)
 (hQ:∀ c a w,Q (.panic c) (a.put oi.dst v) w→Q (.panic c) a w) (n:Nat):
 ∀ (fuel:Nat) (listed:Array Bool) (a:Act) (w:World),
  (∀ j oj,ops[j]? = some oj→j≠i→listed.getD j true = false→(∀ e ∈ oj.after,Region.binds md e = true→e.on≠i)→oi.apart ops oj = true)→
  pW md ops listed→(∀ d ∈ ds,listed.getD d true = false→Region.vN md ops i n d = true)→
  i ∈ Region.ready md ops listed→YieldsIf P ops S oi v a→S w→
  fQ P md ops Q S ds fuel (listed.setIfInBounds i true) (a.put oi.dst v) w→fQ P md ops Q S ds (fuel+1) listed a w:=by
 intro fuel
 induction fuel with
 |zero =>
  intro listed a w _ _ _ hr hy hS H
  refine ⟨fun h=>(by rw [h] at hr;cases hr),fun j hj=>?_⟩
  by_cases hji:j = i
  ·subst hji;exact hy.wpOp hi hS ⟨fun _ h=>h,H⟩
  ·have:=ready_mono hj hji
   rw [H.1] at this
   cases this
 |succ fuel ih =>
  intro listed a w hfree hc hd hr hy hS H
  refine ⟨fun h=>(by rw [h] at hr;cases hr),fun j hj=>?_⟩
  by_cases hji:j = i
  ·subst hji;exact hy.wpOp hi hS ⟨fun _ h=>h,H⟩
  ·have h1:=H.2 j (ready_mono hj hji)
   obtain ⟨hjun,oj,hoj,hall⟩:=mem_ready.1 hj
   have hiun:=(mem_ready.1 hr).1
   have hnot:∀ e ∈ oj.after,Region.binds md e = true→e.on≠i:=fun e he hb heq=>by
    have h1:=hall e he hb
    rw [heq] at h1
    rcases Nat.lt_or_ge i listed.size with h'|h'
    ·simp [h'] at hiun h1;rw [hiun] at h1;cases h1
    ·simp [Array.getElem?_eq_none h'] at h1
   have hjd:j ∉ ds:=fun hm=>Region.Jn hc (hd j hm hjun) hiun hj
   have h2:=wpOp_putIf hoj (hfree j oj hoj hji hjun hnot) (fun cs b=>hsel i oi cs b hi) (fun cs b=>hsel j oj cs b hoj) hQ hy h1
   have hfree':∀ k ok,ops[k]? = some ok→k≠i→(listed.setIfInBounds j true).getD k true = false→
    (∀ e ∈ ok.after,Region.binds md e = true→e.on≠i)→oi.apart ops ok = true:=fun k ok hk hki hun hno=>by
    refine hfree k ok hk hki ?_ hno
    by_cases hjk:j = k
    ·subst hjk;exact hjun
    ·rw [getD_set_ne true hjk] at hun;exact hun
   have hd':∀ d ∈ ds,(listed.setIfInBounds j true).getD d true = false→Region.vN md ops i n d = true:=fun d hm hun=>by
    refine hd d hm ?_
    by_cases hjk:j = d
    ·subst hjk;exact hjun
    ·rw [getD_set_ne true hjk] at hun;exact hun
   refine wpOp_mono (fun a' w' h3=>⟨h3.2.1,ih (listed.setIfInBounds j true) a' w' hfree' (hc.set hj) hd' (ready_mono hr (Ne.symm hji)) h3.1 (h3.2.1 hjd hS) ?_⟩) h2
   rw [Array.setIfInBounds_comm _ _ hji]
   exact h3.2.2
theorem MB {i:Nat} {oi:Oper} {v:Value} (hi:ops[i]? = some oi) (hsel:∀ (j:Nat) (o:Oper) cs b,ops[j]? = some o→o.op≠.select cs b)
 (hQ:∀ c a w,Q (.panic c) (a.put oi.dst v) w→Q (.panic c) a w):
 ∀ (fuel:Nat) (listed:Array Bool) (a:Act) (w:World),
  (∀ j oj,ops[j]? = some oj→j≠i→listed.getD j true = false→(∀ e ∈ oj.after,Region.binds md e = true→e.on≠i)→oi.apart ops oj = true)→
  i ∈ Region.ready md ops listed→Yields P ops oi v a→
  fQ P md ops Q S ds fuel (listed.setIfInBounds i true) (a.put oi.dst v) w→fQ P md ops Q S ds (fuel+1) listed a w:=by
 intro fuel
 induction fuel with
 |zero =>
  intro listed a w _ hr hy H
  refine ⟨fun h=>(by rw [h] at hr;cases hr),fun j hj=>?_⟩
  by_cases hji:j = i
  ·subst hji;exact (hy.yieldsIf (S:=fun _=>True)).wpOp hi trivial ⟨fun _ h=>h,H⟩
  ·have:=ready_mono hj hji
   rw [H.1] at this
   cases this
 |succ fuel ih =>
  intro listed a w hfree hr hy H
  refine ⟨fun h=>(by rw [h] at hr;cases hr),fun j hj=>?_⟩
  by_cases hji:j = i
  ·subst hji;exact (hy.yieldsIf (S:=fun _=>True)).wpOp hi trivial ⟨fun _ h=>h,H⟩
  ·have h1:=H.2 j (ready_mono hj hji)
   obtain ⟨hjun,oj,hoj,hall⟩:=mem_ready.1 hj
   have hiun:=(mem_ready.1 hr).1
   have hnot:∀ e ∈ oj.after,Region.binds md e = true→e.on≠i:=fun e he hb heq=>by
    have h1:=hall e he hb
    rw [heq] at h1
    rcases Nat.lt_or_ge i listed.size with h'|h'
    ·simp [h'] at hiun h1;rw [hiun] at h1;cases h1
    ·simp [Array.getElem?_eq_none h'] at h1
   have h2:=wpOp_put hoj (hfree j oj hoj hji hjun hnot) (fun cs b=>hsel i oi cs b hi) (fun cs b=>hsel j oj cs b hoj) hQ hy h1
   have hfree':∀ k ok,ops[k]? = some ok→k≠i→(listed.setIfInBounds j true).getD k true = false→
    (∀ e ∈ ok.after,Region.binds md e = true→e.on≠i)→oi.apart ops ok = true:=fun k ok hk hki hun hno=>by
    refine hfree k ok hk hki ?_ hno
    by_cases hjk:j = k
    ·subst hjk;exact hjun
    ·rw [getD_set_ne true hjk] at hun;exact hun
   refine wpOp_mono (fun a' w' h3=>⟨h3.2.1,ih (listed.setIfInBounds j true) a' w' hfree' (ready_mono hr (Ne.symm hji)) h3.1 ?_⟩) h2
   rw [Array.setIfInBounds_comm _ _ hji]
   exact h3.2.2
theorem Lp {i:Nat} {oi:Oper} {v:Value} {fuel:Nat} {listed:Array Bool} {a:Act} {w:World} (hi:ops[i]? = some oi)
 (hs:Region.noSelect ops = true) (hf:Region.free md ops listed i = true) (hr:(Region.ready md ops listed).contains i = true)
 (hc:Region.Fy md ops listed = true) (hl:Region.lastB md ops listed ds i = true)
 (hQ:∀ c a w,Q (.panic c) (a.put oi.dst v) w→Q (.panic c) a w) (hy:YieldsIf P ops S oi v a) (hS:S w)
 (h:fQ P md ops Q S ds fuel (listed.setIfInBounds i true) (a.put oi.dst v) w):fQ P md ops Q S ds (fuel+1) listed a w :=
 Jo hi (Region.noSelect_spec hs) hQ ops.size fuel listed a w (Region.free_spec hi hf) (Region.PH hc)
  (fun d hm hun=>by have:=List.all_eq_true.1 hl d hm;rw [hun] at this;simpa using this) (by simpa using hr) hy hS h
theorem MC {rs:List Nat} {fuel:Nat} {listed:Array Bool} {a:Act} {w:World} (hr:Region.ready md ops listed = rs) (hne:rs≠[])
 (h:∀ i ∈ rs,wpOp P ops Q i (fun a' w'=>(i ∉ ds→S w→S w')∧fQ P md ops Q S ds fuel (listed.setIfInBounds i true) a' w') a w):fQ P md ops Q S ds (fuel+1) listed a w :=
 ⟨fun h0=>absurd (hr ▸ h0) hne,hr ▸ h⟩
theorem Lr {listed:Array Bool} {a:Act} {w:World} (hr:Region.ready md ops listed = []) (h:Q .normal a w):
 ∀ fuel,fQ P md ops Q S ds fuel listed a w
 |0=>⟨hr,h⟩
 |_+1=>⟨fun _=>h,by rw [hr];simp⟩
theorem Ls {id:Nat} {a:Act} {w:World} (hm:P.follows .mixedOrders = true)
 (h:fQ P .any ops Q S ds ops.size (Array.replicate ops.size false) a { w with drawn:=w.drawn+1 }):(Code.region id ops true).wp P Q a w :=
 wp_region_any hm (yM _ _ _ _ h)
end
section
variable {P:Program} {ops:Array Oper} {Q:Exit→Act→World→Prop} {md:Region.Mode} {S:World→Prop} {ds:List Nat}
def lF (P:Program) (md:Region.Mode) (ops:Array Oper) (Q:Exit→Act→World→Prop) (S:World→Prop) (ds:List Nat) (fuel:Nat) (listed:Array Bool) (a:Act) (w:World) (rs:List Nat):Prop :=
 ∀ i ∈ rs,wpOp P ops Q i (fun a' w'=>(i ∉ ds→S w→S w')∧fQ P md ops Q S ds fuel (listed.setIfInBounds i true) a' w') a w
theorem lF.nil {fuel:Nat} {listed:Array Bool} {a:Act} {w:World}:lF P md ops Q S ds fuel listed a w []:=fun _ h=>by cases h
theorem lF.cons {fuel:Nat} {listed:Array Bool} {a:Act} {w:World} {i:Nat} {o:Oper} {rs:List Nat} (ho:ops[i]? = some o) (hd:i ∉ ds)
 (h:∀ K':Act→World→Prop,Shut (∀ a w,S w→(S w→fQ P md ops Q S ds fuel (listed.setIfInBounds i true) a w)→K' a w)→if Region.wanted o (yielded ops a.tmps) = true then Oper.wp P o a w K' Q else K' (a.put o.dst undef) w)
 (hs:lF P md ops Q S ds fuel listed a w rs):lF P md ops Q S ds fuel listed a w (i :: rs):=fun j hj=>by
 rcases List.mem_cons.1 hj with rfl|hj
 ·exact wpOp_step ho (fun K' hK=>h K' (fun a w hS hW=>hK a w ⟨fun _ _=>hS,hW hS⟩))
 ·exact hs j hj
theorem lF.YM {fuel:Nat} {listed:Array Bool} {a:Act} {w:World} {i:Nat} {o:Oper} {rs:List Nat} (ho:ops[i]? = some o) (hd:i ∈ ds)
 (h:∀ K':Act→World→Prop,Shut (∀ a w,fQ P md ops Q S ds fuel (listed.setIfInBounds i true) a w→K' a w)→if Region.wanted o (yielded ops a.tmps) = true then Oper.wp P o a w K' Q else K' (a.put o.dst undef) w)
 (hs:lF P md ops Q S ds fuel listed a w rs):lF P md ops Q S ds fuel listed a w (i :: rs):=fun j hj=>by
 rcases List.mem_cons.1 hj with rfl|hj
 ·exact wpOp_step ho (fun K' hK=>h K' (fun a w hW=>hK a w ⟨fun hn=>absurd hd hn,hW⟩))
 ·exact hs j hj
theorem vO {rs:List Nat} {fuel:Nat} {listed:Array Bool} {a:Act} {w:World} (hr:Region.ready md ops listed = rs) (hne:rs≠[])
 (h:lF P md ops Q S ds fuel listed a w rs):fQ P md ops Q S ds (fuel+1) listed a w:=MC hr hne h
theorem qg {id n:Nat} {a:Act} {w:World} (l:Array Bool) (hm:P.follows .mixedOrders = true) (hn:ops.size = n) (hl:Array.replicate n false = l) (hS:S w.drew)
 (h:S w.drew→fQ P .any ops Q S ds n l a w.drew):(Code.region id ops true).wp P Q a w:=by
 subst hn
 subst hl
 exact Ls hm (h hS)
def takeB (md:Region.Mode) (ops:Array Oper) (ds:List Nat) (l l':Array Bool) (i:Nat):Bool :=
 Region.noSelect ops && Region.free md ops l i && (Region.ready md ops l).contains i && Region.Fy md ops l && Region.lastB md ops l ds i && (l.setIfInBounds i true == l')
theorem gB {i:Nat} {N:Option Tmp} {oi:Oper} {v:Value} {fuel:Nat} {l:Array Bool} {a:Act} {w:World} (l':Array Bool) (hi:ops[i]? = some oi) (hN:oi.dst = N) (hc:takeB md ops ds l l' i = true)
 (hQ:∀ c a w,Q (.panic c) (a.put oi.dst v) w→Q (.panic c) a w) (hy:YieldsIf P ops S oi v a) (hS:S w) {a':Act} (ha:a.put N v = a')
 (h:fQ P md ops Q S ds fuel l' a' w):fQ P md ops Q S ds (fuel+1) l a w:=by
 subst ha
 subst hN
 simp only [takeB,Bool.and_eq_true,beq_iff_eq] at hc
 obtain ⟨⟨⟨⟨⟨h1,h2⟩,h3⟩,h4⟩,h5⟩,h6⟩:=hc
 subst h6
 exact Lp hi h1 h2 h3 h4 h5 hQ hy hS h
def aeH (md:Region.Mode) (ops:Array Oper) (l l':Array Bool) (i:Nat):Bool :=
 Region.noSelect ops && Region.free md ops l i && (Region.ready md ops l).contains i && (l.setIfInBounds i true == l')
theorem bU {i:Nat} {N:Option Tmp} {oi:Oper} {v:Value} {fuel:Nat} {l:Array Bool} {a:Act} {w:World} (l':Array Bool) (hi:ops[i]? = some oi) (hN:oi.dst = N) (hc:aeH md ops l l' i = true)
 (hQ:∀ c a w,Q (.panic c) (a.put oi.dst v) w→Q (.panic c) a w) (hy:Yields P ops oi v a) {a':Act} (ha:a.put N v = a')
 (h:fQ P md ops Q S ds fuel l' a' w):fQ P md ops Q S ds (fuel+1) l a w:=by
 subst ha
 subst hN
 simp only [aeH,Bool.and_eq_true,beq_iff_eq] at hc
 obtain ⟨⟨⟨h1,h2⟩,h3⟩,h6⟩:=hc
 subst h6
 exact MB hi (Region.noSelect_spec h1) hQ fuel l a w (Region.free_spec hi h2) (by simpa using h3) hy h
def Iu (md:Region.Mode) (ops:Array Oper) (l l':Array Bool) (i:Nat):Bool:=(Region.ready md ops l == [i]) && (l.setIfInBounds i true == l')
theorem o7 {i:Nat} {N:Option Tmp} {oi:Oper} {fuel:Nat} {l:Array Bool} {a:Act} {w:World} (l':Array Bool) (hi:ops[i]? = some oi) (hN:oi.dst = N) (hc:Iu md ops l l' i = true) (hd:i ∉ ds)
 (h:∀ K:Act→World→Prop,Shut (∀ a' w',S w'→(S w'→fQ P md ops Q S ds fuel l' a' w')→K a' w')→if Region.wanted oi (yielded ops a.tmps) = true then Oper.wp P oi a w K Q else K (a.put N undef) w):
 fQ P md ops Q S ds (fuel+1) l a w:=by
 subst hN
 simp only [Iu,Bool.and_eq_true,beq_iff_eq] at hc
 obtain ⟨h1,h2⟩:=hc
 subst h2
 exact vO h1 (by simp) (lF.cons hi hd (fun K hK=>h K hK) lF.nil)
theorem M5 {i:Nat} {N:Option Tmp} {oi:Oper} {fuel:Nat} {l:Array Bool} {a:Act} {w:World} (l':Array Bool) (hi:ops[i]? = some oi) (hN:oi.dst = N) (hc:Iu md ops l l' i = true) (hd:i ∈ ds)
 (h:∀ K:Act→World→Prop,Shut (∀ a' w',fQ P md ops Q S ds fuel l' a' w'→K a' w')→if Region.wanted oi (yielded ops a.tmps) = true then Oper.wp P oi a w K Q else K (a.put N undef) w):
 fQ P md ops Q S ds (fuel+1) l a w:=by
 subst hN
 simp only [Iu,Bool.and_eq_true,beq_iff_eq] at hc
 obtain ⟨h1,h2⟩:=hc
 subst h2
 exact vO h1 (by simp) (lF.YM hi hd (fun K hK=>h K hK) lF.nil)
theorem tT {l:Array Bool} {a:Act} {w:World} {n:Nat} (hr:(Region.ready md ops l == []) = true) (h:Q .normal a w):fQ P md ops Q S ds n l a w:=Lr (by simpa using hr) h n
theorem aeI {i j:Nat} {Ni Nj:Option Tmp} {oi oj:Oper} {fuel:Nat} {l:Array Bool} {a:Act} {w:World} (li lj:Array Bool) (hi:ops[i]? = some oi) (hj:ops[j]? = some oj) (hNi:oi.dst = Ni) (hNj:oj.dst = Nj)
 (hc:(Region.ready md ops l == [i,j] && l.setIfInBounds i true == li && l.setIfInBounds j true == lj) = true) (hdi:i ∉ ds) (hdj:j ∉ ds)
 (h1:∀ K:Act→World→Prop,Shut (∀ a' w',S w'→(S w'→fQ P md ops Q S ds fuel li a' w')→K a' w')→if Region.wanted oi (yielded ops a.tmps) = true then Oper.wp P oi a w K Q else K (a.put Ni undef) w)
 (h2:∀ K:Act→World→Prop,Shut (∀ a' w',S w'→(S w'→fQ P md ops Q S ds fuel lj a' w')→K a' w')→if Region.wanted oj (yielded ops a.tmps) = true then Oper.wp P oj a w K Q else K (a.put Nj undef) w):
 fQ P md ops Q S ds (fuel+1) l a w:=by
 subst hNi
 subst hNj
 simp only [Bool.and_eq_true,beq_iff_eq] at hc
 obtain ⟨⟨h3,h4⟩,h5⟩:=hc
 subst h4
 subst h5
 exact vO h3 (by simp) (lF.cons hi hdi (fun K hK=>h1 K hK) (lF.cons hj hdj (fun K hK=>h2 K hK) lF.nil))
def qH:Act→List (Tmp × Value)→Act
 |a,[]=>a
 |a,(n,v) :: r=>qH (a.put (some n) v) r
theorem ZY {σ:Type} {fuel:Nat} {l:Array Bool} {a:Act} {w:World} (fuel':Nat) (l':Array Bool) (ns:σ→List (Tmp × Value)) (F:σ→World→Prop)
 (hcont:∀ s w',F s w'→fQ P md ops Q S ds fuel' l' (qH a (ns s)) w')
 (h:(∀ s w',F s w'→fQ P md ops Q S ds fuel' l' (qH a (ns s)) w')→fQ P md ops Q S ds fuel l a w):fQ P md ops Q S ds fuel l a w:=h hcont
theorem iP {fuel:Nat} {l:Array Bool} {a a':Act} {w:World} (ha:a = a') (h:fQ P md ops Q S ds fuel l a' w):fQ P md ops Q S ds fuel l a w:=by
 subst ha
 exact h
theorem call_ {oi:Oper} {N:Option Tmp} {a:Act} {w:World} {K:Act→World→Prop} (f:FuncId) (args:Array Value) (hw:Region.wanted oi (yielded ops a.tmps) = true) (hN:oi.dst = N) (hrun:(execOp a.eval oi).run P w = .ok (.enter f args) w)
 (h:Calls P f args w fun e w'=>∃ v,e = .returned v∧K (a.put N v) w'):if Region.wanted oi (yielded ops a.tmps) = true then Oper.wp P oi a w K Q else K (a.put N undef) w:=by
 rw [if_pos hw]
 subst hN
 unfold Oper.wp
 rw [hrun,Oper.upon_enter]
 refine h.mono fun e w'' hh=>?_
 obtain ⟨v,rfl,hk⟩:=hh
 exact hk
theorem WV {f:FuncId} {fn:Func} (hf:P.funcs[f]? = some fn) (hname:(fn.name == "runtime.NumGoroutine") = false) (hb:fn.body.isSome = true) (args:Array Value) (w:World):(callFunc f args).run P w = .ok (.enter f args) w:=by
 have h1:fn.name≠"runtime.NumGoroutine":=by simpa using hname
 obtain ⟨c,hc⟩:=Option.isSome_iff_exists.1 hb
 simp [callFunc,hf,h1,hc]
theorem kP {oi:Oper} {N:Option Tmp} {a:Act} {w:World} {K:Act→World→Prop} {f:FuncId} {fn:Func} {as_:Array Operand} {ts:Array TypeId} (hf:P.funcs[f]? = some fn) (hname:(fn.name == "runtime.NumGoroutine") = false) (hb:fn.body.isSome = true) (args:Array Value)
 (hw:Region.wanted oi (yielded ops a.tmps) = true) (hN:oi.dst = N) (hop:oi.op = .call { callee:=.value (.func f),args:=as_,argTypes:=ts }) (hargs:as_.map a.eval = args)
 (h:Calls P f args w fun e w'=>∃ v,e = .returned v∧K (a.put N v) w'):if Region.wanted oi (yielded ops a.tmps) = true then Oper.wp P oi a w K Q else K (a.put N undef) w:=by
 refine call_ f args hw hN ?_ h
 have he:=WV hf hname hb args w
 unfold execOp
 simp [hop,resolve,Deferred.ofValue,invoke,Act.eval,hargs,he]
theorem fM {rest:List Oper} {oi:Oper} {a:Act} {w:World} (N:Option Tmp) (hd:oi.dst = N) (hg:oi.guard = none) {f:FuncId} {fn:Func} {as_:Array Operand} {ts:Array TypeId} (hf:P.funcs[f]? = some fn) (hname:(fn.name == "runtime.NumGoroutine") = false) (hb:fn.body.isSome = true) (args:Array Value)
 (hop:oi.op = .call { callee:=.value (.func f),args:=as_,argTypes:=ts }) (hargs:as_.map a.eval = args)
 (h:Calls P f args w fun e w'=>∃ v,e = .returned v∧wpList P ops Q rest (a.put N v) w'):wpList P ops Q (oi :: rest) a w:=by
 refine wpList_plain hg fun K hK=>?_
 have he:=WV hf hname hb args w
 have hrun:(execOp a.eval oi).run P w = .ok (.enter f args) w:=by
  unfold execOp
  simp [hop,resolve,Deferred.ofValue,invoke,Act.eval,hargs,he]
 unfold Oper.wp
 rw [hrun,Oper.upon_enter]
 refine h.mono fun e w'' hh=>?_
 obtain ⟨v,rfl,hk⟩:=hh
 subst hd
 exact hK _ _ hk
theorem Iw {oi:Oper} {N:Option Tmp} {a:Act} {w w1:World} {v:Value} {K:Act→World→Prop} (hw:Region.wanted oi (yielded ops a.tmps) = true) (hN:oi.dst = N) (hrun:(execOp a.eval oi).run P w = .ok (.value v) w1)
 (h:K (a.put N v) w1):if Region.wanted oi (yielded ops a.tmps) = true then Oper.wp P oi a w K Q else K (a.put N undef) w:=by
 rw [if_pos hw]
 subst hN
 unfold Oper.wp
 rw [hrun]
 exact h
theorem Ld {oi:Oper} {a:Act} {w w1:World} {K:Act→World→Prop} (hw:Region.wanted oi (yielded ops a.tmps) = true) (hN:oi.dst = none) (hrun:(execOp a.eval oi).run P w = .ok .skip w1)
 (h:K a w1):if Region.wanted oi (yielded ops a.tmps) = true then Oper.wp P oi a w K Q else K (a.put none undef) w:=by
 rw [if_pos hw]
 unfold Oper.wp
 rw [hrun]
 show K (a.put oi.dst undef) w1
 rw [hN]
 exact h
theorem aZ (n:Int):IntKind.i64.wrap n = Go.RowKit.wrap64 n:=by unfold Go.RowKit.wrap64;exact IntKind.wrap_i64 n
theorem bf (n:Int):IntKind.i32.wrap n = Go.RowKit.wrap32 n:=by unfold Go.RowKit.wrap32;exact IntKind.wrap_i32 n
end
end Go.Proofs.YtmhaiihjfgfaoaaW.PrintLast
end
section
namespace Go.Proofs.YtmhaiihjfgfaoaaW.PrintLast
open Go.Proofs.YtmhaiihjfgfaoaaW.PrintWords (aj)
def CK (md:Region.Mode) (o:Oper):List Nat:=(o.after.toList.filter (fun e=>Region.binds md e)).map (fun e=>e.on)
def PI (md:Region.Mode) (ops:Array Oper) (i:Nat) (oi:Oper):List Nat:=(List.range ops.size).filter fun j=>!(j == i) && match ops[j]? with
 |some oj=>!(oj.after.any (fun e=>Region.binds md e && e.on == i) || oi.apart ops oj)
 |none=>false
def vC (md:Region.Mode) (ops:Array Oper):Bool × List (List Nat × List Nat):=(Region.noSelect ops,(List.range ops.size).map fun i=>match ops[i]? with
 |some o=>(CK md o,PI md ops i o)
 |none=>([],[]))
def yj (T:List (List Nat × List Nat)) (l:List Bool) (i:Nat):Bool:=!l.getD i true && match T[i]? with
 |some r=>r.1.all (fun j=>l.getD j false)
 |none=>false
def Iy (T:List (List Nat × List Nat)) (l:List Bool):List Nat:=(List.range T.length).filter (yj T l)
def QZ (T:List (List Nat × List Nat)) (l:List Bool) (i:Nat):Bool:=match T[i]? with
 |some r=>r.2.all (fun j=>l.getD j true)
 |none=>false
def Kb (T:List (List Nat × List Nat)) (l:List Bool):Bool:=(List.range T.length).all fun j=>!l.getD j false || match T[j]? with
 |some r=>r.1.all (fun k=>l.getD k false)
 |none=>true
def Iz (T:List (List Nat × List Nat)) (i:Nat):Nat→Nat→Bool
 |0,_=>false
 |fuel+1,d=>match T[d]? with
  |some r=>r.1.any fun j=>j == i || Iz T i fuel j
  |none=>false
def lastT (T:List (List Nat × List Nat)) (l:List Bool) (ds:List Nat) (i:Nat):Bool:=ds.all fun d=>l.getD d true || Iz T i T.length d
section
variable {md:Region.Mode} {ops:Array Oper} {T:Bool × List (List Nat × List Nat)} {l l' li lj lk:Array Bool} {ds:List Nat} {i j k:Nat}
theorem gd (l:Array Bool) (j:Nat) (b:Bool):l.getD j b = l.toList.getD j b:=by simp [Array.getD_eq_getD_getElem?,List.getD_eq_getElem?_getD]
theorem Ng (o:Oper) (p:Nat→Bool):o.after.all (fun e=>!Region.binds md e || p e.on) = (CK md o).all p:=by
 unfold CK
 rw [← Array.all_toList]
 induction o.after.toList with
 |nil=>rfl
 |cons e r ih =>
  rw [List.all_cons,ih,List.filter_cons]
  cases h:Region.binds md e <;> simp
theorem YN (o:Oper) (p:Nat→Bool):o.after.any (fun e=>Region.binds md e && p e.on) = (CK md o).any p:=by
 unfold CK
 rw [← Array.any_toList]
 induction o.after.toList with
 |nil=>rfl
 |cons e r ih =>
  rw [List.any_cons,ih,List.filter_cons]
  cases h:Region.binds md e <;> simp
theorem yl:(vC md ops).2.length = ops.size:=by simp [vC]
theorem CL {o:Oper} (h:ops[i]? = some o):(vC md ops).2[i]? = some (CK md o,PI md ops i o):=by
 have hi:=(Array.getElem?_eq_some_iff.1 h).1
 unfold vC
 rw [List.getElem?_map,List.getElem?_range hi,Option.map_some,h]
theorem CO (h:ops[i]? = none):(vC md ops).2[i]? = none:=by
 have hi:ops.size≤i:=Array.getElem?_eq_none_iff.1 h
 exact List.getElem?_eq_none (by rw [yl];exact hi)
theorem Sz:yj (vC md ops).2 l.toList i = (!l.getD i true && ((ops[i]?).map (·.after.all fun e=>!Region.binds md e || l.getD e.on false)).getD false):=by
 unfold yj
 rw [gd]
 cases h:ops[i]? with
 |none=>rw [CO h];rfl
 |some o =>
  rw [CL h]
  simp only [Option.map_some,Option.getD_some]
  rw [← Ng]
  simp only [gd]
theorem ready_eq:Region.ready md ops l = Iy (vC md ops).2 l.toList:=by
 unfold Region.ready Iy
 rw [yl]
 refine List.filter_congr (fun i _=>?_)
 rw [Sz]
theorem free_eq:Region.free md ops l i = QZ (vC md ops).2 l.toList i:=by
 unfold Region.free QZ
 cases h:ops[i]? with
 |none=>rw [CO h]
 |some oi =>
  rw [CL h]
  simp only [PI]
  rw [List.all_filter]
  congr 1
  funext j
  rw [gd]
  cases hj:ops[j]? with
  |none=>cases (j == i) <;> cases (l.toList.getD j true) <;> simp
  |some oj =>
   cases (j == i) <;> cases (l.toList.getD j true) <;> cases (oj.after.any (fun e=>Region.binds md e && e.on == i) || oi.apart ops oj) <;> simp_all
theorem YO:Region.Fy md ops l = Kb (vC md ops).2 l.toList:=by
 unfold Region.Fy Kb
 rw [yl]
 congr 1
 funext j
 rw [gd]
 cases h:ops[j]? with
 |none=>rw [CO h]
 |some o =>
  rw [CL h]
  simp only
  rw [← Ng]
  simp only [gd]
theorem Q0:∀ (fuel d:Nat),Region.vN md ops i fuel d = Iz (vC md ops).2 i fuel d
 |0,_=>rfl
 |fuel+1,d=>by
  unfold Region.vN Iz
  cases h:ops[d]? with
  |none=>rw [CO h]
  |some o =>
   rw [CL h]
   simp only
   rw [← YN]
   congr 1
   funext e
   rw [Q0 fuel]
theorem aeJ:Region.lastB md ops l ds i = lastT (vC md ops).2 l.toList ds i:=by
 unfold Region.lastB lastT
 rw [yl]
 congr 1
 funext d
 rw [gd,Q0]
theorem I6 (h:yj T.2 l.toList i = true) (hT:vC md ops = T):(Region.ready md ops l).contains i = true:=by
 subst hT
 rw [ready_eq]
 unfold Iy
 rw [List.contains_iff_mem,List.mem_filter,List.mem_range]
 refine ⟨?_,h⟩
 unfold yj at h
 rw [Bool.and_eq_true] at h
 cases hq:(vC md ops).2[i]? with
 |none=>rw [hq] at h;simp at h
 |some r=>exact (List.getElem?_eq_some_iff.1 hq).1
theorem Lt (h:(l.toList.set i true == l'.toList) = true):(l.setIfInBounds i true == l') = true:=by
 rw [beq_iff_eq] at h ⊢
 apply Array.ext'
 rw [Array.toList_setIfInBounds]
 exact h
def aoD (T:Bool × List (List Nat × List Nat)) (l l':List Bool) (i:Nat):Bool:=T.1 && QZ T.2 l i && yj T.2 l i && (l.set i true == l')
theorem dC (hT:vC md ops = T) (h:aoD T l.toList l'.toList i = true):aeH md ops l l' i = true:=by
 simp only [aoD,Bool.and_eq_true] at h
 obtain ⟨⟨⟨h1,h2⟩,h3⟩,h4⟩:=h
 have h5:=I6 h3 hT
 have h6:=Lt h4
 subst hT
 simp only [aeH,Bool.and_eq_true]
 exact ⟨⟨⟨h1,by rw [free_eq];exact h2⟩,h5⟩,h6⟩
def ZZ (T:Bool × List (List Nat × List Nat)) (ds:List Nat) (l l':List Bool) (i:Nat):Bool:=T.1 && QZ T.2 l i && yj T.2 l i && Kb T.2 l && lastT T.2 l ds i && (l.set i true == l')
theorem aeK (hT:vC md ops = T) (h:ZZ T ds l.toList l'.toList i = true):takeB md ops ds l l' i = true:=by
 simp only [ZZ,Bool.and_eq_true] at h
 obtain ⟨⟨⟨⟨⟨h1,h2⟩,h3⟩,h4⟩,h5⟩,h6⟩:=h
 have h7:=I6 h3 hT
 have h8:=Lt h6
 subst hT
 simp only [takeB,Bool.and_eq_true]
 exact ⟨⟨⟨⟨⟨h1,by rw [free_eq];exact h2⟩,h7⟩,by rw [YO];exact h4⟩,by rw [aeJ];exact h5⟩,h8⟩
theorem l9 (hT:vC md ops = T) (h:(Iy T.2 l.toList == [i] && l.toList.set i true == l'.toList) = true):Iu md ops l l' i = true:=by
 simp only [Bool.and_eq_true] at h
 obtain ⟨h1,h2⟩:=h
 subst hT
 simp only [Iu,Bool.and_eq_true]
 exact ⟨by rw [ready_eq];exact h1,Lt h2⟩
theorem Z0 (hT:vC md ops = T) (h:(Iy T.2 l.toList == [i,j] && l.toList.set i true == li.toList && l.toList.set j true == lj.toList) = true):(Region.ready md ops l == [i,j] && l.setIfInBounds i true == li && l.setIfInBounds j true == lj) = true:=by
 simp only [Bool.and_eq_true] at h ⊢
 obtain ⟨⟨h1,h2⟩,h3⟩:=h
 subst hT
 exact ⟨⟨by rw [ready_eq];exact h1,Lt h2⟩,Lt h3⟩
theorem yh (hT:vC md ops = T) (h:(Iy T.2 l.toList == []) = true):(Region.ready md ops l == []) = true:=by
 subst hT
 rw [ready_eq]
 exact h
def Y9 (B:List Nat) (d:Nat):List Nat→Nat
 |[]=>0
 |n :: r=>(2 ^ n ||| (if n < d then B.getD n 0 else 0)) ||| Y9 B d r
def wu (T:List (List Nat × List Nat)) (B:List Nat):Bool:=(List.range T.length).all fun d=>match T[d]? with
 |some r=>(B.getD d 0 ||| Y9 B d r.1) == Y9 B d r.1
 |none=>false
theorem WW {B:List Nat} {d i:Nat}:∀ {ns:List Nat},(Y9 B d ns).testBit i = true→∃ n ∈ ns,n = i∨(n < d∧(B.getD n 0).testBit i = true)
 |[],h=>by simp [Y9] at h
 |n :: r,h=>by
  unfold Y9 at h
  rw [Nat.testBit_or,Nat.testBit_or,Bool.or_eq_true,Bool.or_eq_true] at h
  rcases h with (h|h)|h
  ·rw [Nat.testBit_two_pow] at h
   exact ⟨n,List.mem_cons_self,.inl (by simpa using h)⟩
  ·by_cases hn:n < d
   ·rw [if_pos hn] at h
    exact ⟨n,List.mem_cons_self,.inr ⟨hn,h⟩⟩
   ·rw [if_neg hn] at h
    simp at h
  ·obtain ⟨m,hm,h2⟩:=WW h
   exact ⟨m,List.mem_cons_of_mem _ hm,h2⟩
theorem Nh {T:List (List Nat × List Nat)} {B:List Nat} (hB:wu T B = true):∀ (fuel d:Nat),d < fuel→d < T.length→(B.getD d 0).testBit i = true→Iz T i fuel d = true
 |0,d,h,_,_=>by omega
 |fuel+1,d,h,hd,hb=>by
  have h1:=List.all_eq_true.1 hB d (List.mem_range.2 hd)
  cases hr:T[d]? with
  |none=>rw [hr] at h1;simp at h1
  |some r =>
   rw [hr] at h1
   simp only [beq_iff_eq] at h1
   have h2:(Y9 B d r.1).testBit i = true:=by rw [← h1,Nat.testBit_or,hb,Bool.true_or]
   obtain ⟨n,hn,h3⟩:=WW h2
   unfold Iz
   rw [hr]
   simp only
   rw [List.any_eq_true]
   refine ⟨n,hn,?_⟩
   rcases h3 with rfl|⟨h4,h5⟩
   ·simp
   ·rw [Nh hB fuel n (by omega) (by omega) h5,Bool.or_true]
def agu (T:List (List Nat × List Nat)) (B:List Nat) (l:List Bool) (ds:List Nat) (i:Nat):Bool:=ds.all fun d=>l.getD d true || (decide (d < T.length) && (B.getD d 0).testBit i)
def agv (T:Bool × List (List Nat × List Nat)) (B:List Nat) (ds:List Nat) (l l':List Bool) (i:Nat):Bool:=T.1 && QZ T.2 l i && yj T.2 l i && Kb T.2 l && agu T.2 B l ds i && (l.set i true == l')
theorem gJ {B:List Nat} (hT:vC md ops = T) (hB:wu T.2 B = true) (h:agv T B ds l.toList l'.toList i = true):takeB md ops ds l l' i = true:=by
 refine aeK hT ?_
 simp only [agv,ZZ,Bool.and_eq_true] at h ⊢
 obtain ⟨⟨⟨⟨⟨h1,h2⟩,h3⟩,h4⟩,h5⟩,h6⟩:=h
 refine ⟨⟨⟨⟨⟨h1,h2⟩,h3⟩,h4⟩,?_⟩,h6⟩
 unfold agu at h5
 unfold lastT
 rw [List.all_eq_true] at h5 ⊢
 intro d hd
 have h7:=h5 d hd
 rw [Bool.or_eq_true,Bool.and_eq_true,decide_eq_true_eq] at h7
 rcases h7 with h7|⟨h8,h9⟩
 ·rw [h7,Bool.true_or]
 ·rw [Nh hB _ d h8 h8 h9,Bool.or_true]
theorem si {P:Program} {Q:Exit→Act→World→Prop} {S:World→Prop} {n:Nat} {a:Act} {w:World} {B:List Nat} (hT:vC md ops = T) (hB:wu T.2 B = true) (h:aj (vC md ops = T)→aj (wu T.2 B = true)→fQ P md ops Q S ds n l a w):fQ P md ops Q S ds n l a w:=h ⟨hT⟩ ⟨hB⟩
end
def DF:Code→Nat→Option (Array Oper)
 |.region id ops _,k=>if id == k then some ops else none
 |.seq a b,k=>match DF a k with
  |some o=>some o
  |none=>DF b k
 |.cond _ a b,k=>match DF a k with
  |some o=>some o
  |none=>DF b k
 |.block _ c,k=>DF c k
 |.loop c,k=>DF c k
 |.scope c,k=>DF c k
 |.rangeFunc _ _ a b,k=>match DF a k with
  |some o=>some o
  |none=>DF b k
 |_,_=>none
def opsOf (f:Func) (k:Nat):Array Oper:=((f.body.bind fun c=>DF c k)).getD #[]
end Go.Proofs.YtmhaiihjfgfaoaaW.PrintLast
end
section
namespace Go.Proofs.YtmhaiihjfgfaoaaW.PrintLast
section
variable {P:Program} {ops:Array Oper} {Q:Exit→Act→World→Prop} {md:Region.Mode} {S:World→Prop} {ds:List Nat} {T:Bool × List (List Nat × List Nat)}
end
end Go.Proofs.YtmhaiihjfgfaoaaW.PrintLast
end
section
namespace Go.Proofs.YtmhaiihjfgfaoaaW.PrintWords
open Go.RowKit
namespace Kd
section
variable {α:Type} {d:Kd α} {e base g o n cap:Nat} {ok okp:Nat→Prop} {w W:World} {v:Value} {xs:List α}
end
section
variable {α:Type} {enc:α→Value} {h1:∀ x,(enc x).oneCell' = true} {e base g o n cap:Nat} {ok:Nat→Prop} {W:World} {xs:List α}
end
end Kd
end Go.Proofs.YtmhaiihjfgfaoaaW.PrintWords
end
section
namespace Go.Proofs.YtmhaiihjfgfaoaaW.PrintWords
open Go.RowKit
namespace Kd
def tag {α:Type} (f:Nat→Nat) (d:Kd α):Kd (α × Nat) where
 sz:=d.sz
 E:=d.E
 K:=fun w x cs=>d.K w x.1 cs
 M:=fun w base ok x cs=>d.M w base (fun k=>ok k∧f k = x.2) x.1 cs
 xc:=fun h=>d.xc h
 xe:=fun h=>d.xe h
 qw:=fun hb h=>d.qw hb h
 qh:=fun h=>d.qh h
 mI:=fun hok h=>d.mI (fun k hk=>⟨hok k hk.1,hk.2⟩) h
 nH:=fun h=>d.mI (fun _ hk=>⟨⟨hk.1.1,hk.2⟩,hk.1.2⟩) (d.nH h)
 pV:=fun hm h=>d.pV (fun k hk=>hm k hk.1) h
 qx:=fun hb h=>d.qx hb h
def raw (sz:Nat):Kd (List Value) where
 sz:=sz
 E:=[]
 K:=fun _ x cs=>cs = x∧cs.length = sz∧∀ u ∈ cs,u.oneCell' = true
 M:=fun _ _ _ x cs=>cs = x∧cs.length = sz∧∀ u ∈ cs,u.oneCell' = true
 xc:=fun h=>h.2.1
 xe:=fun h=>h.2.2
 qw:=fun _ h=>h
 qh:=fun h=>h
 mI:=fun _ h=>h
 nH:=fun h=>h
 pV:=fun _ h=>h
 qx:=fun _ h=>h
def S {α:Type} (d:Kd α) (e:Nat) (w:World) (base:Nat) (ok:Nat→Prop) (v:Value) (xs:List α):Prop:=∃ f,(tag f d).R e w base ok v xs.zipIdx
section
variable {α β:Type} {d:Kd α} {d':Kd β} {e e':Nat} {w w1 W:World} {base b:Nat} {ok ok' okv oku:Nat→Prop} {u v:Value} {xs:List α} {ys:List β}
end
section
variable {α β:Type} {d:Kd α} {d':Kd β} {e e' g:Nat} {w w1 W:World} {base b:Nat} {ok ok' okv oku:Nat→Prop} {u v:Value} {xs:List α} {ys:List β}
end
section
open Classical in
variable {P:Program} {ops:Array Oper} {rest:List Oper} {o:Oper} {a:Act} {Q:Exit→Act→World→Prop} {Kc:Act→World→Prop} {α:Type}
end
def gap {α:Type} (f:Nat→Nat) (d:Kd α) (i:Nat) (c:List Value):Kd (α × Nat) where
 sz:=d.sz
 E:=d.E
 K:=fun w x cs=>(x.2 = i→cs = c∧cs.length = d.sz∧∀ u ∈ cs,u.oneCell' = true)∧(x.2≠i→d.K w x.1 cs)
 M:=fun w base ok x cs=>(x.2 = i→cs = c∧cs.length = d.sz∧∀ u ∈ cs,u.oneCell' = true)∧(x.2≠i→d.M w base (fun k=>ok k∧f k = x.2) x.1 cs)
 xc:=fun {w x cs} h=>by
  by_cases hx:x.2 = i
  ·exact (h.1 hx).2.1
  ·exact d.xc (h.2 hx)
 xe:=fun {w x cs} h=>by
  by_cases hx:x.2 = i
  ·exact (h.1 hx).2.2
  ·exact d.xe (h.2 hx)
 qw:=fun hb h=>⟨h.1,fun hx=>d.qw hb (h.2 hx)⟩
 qh:=fun h=>⟨h.1,fun hx=>d.qh (h.2 hx)⟩
 mI:=fun hok h=>⟨h.1,fun hx=>d.mI (fun k hk=>⟨hok k hk.1,hk.2⟩) (h.2 hx)⟩
 nH:=fun h=>⟨h.1,fun hx=>d.mI (fun _ hk=>⟨⟨hk.1.1,hk.2⟩,hk.1.2⟩) (d.nH (h.2 hx))⟩
 pV:=fun hm h=>⟨h.1,fun hx=>d.pV (fun k hk=>hm k hk.1) (h.2 hx)⟩
 qx:=fun hb h=>⟨h.1,fun hx=>d.qx hb (h.2 hx)⟩
def H {α:Type} (d:Kd α) (e:Nat) (w:World) (base:Nat) (ok:Nat→Prop) (v:Value) (xs:List α) (i:Int) (oki:Nat→Prop) (c:List Value):Prop :=
 (∀ k,oki k→ok k)∧∃ f,(gap f d i.toNat c).R e w base (fun k=>ok k∧¬ oki k) v xs.zipIdx
section
variable {α β:Type} {d:Kd α} {e e' g n cap:Nat} {w w1 W:World} {base:Nat} {ok ok' oki okp:Nat→Prop} {u v:Value} {xs:List α} {i:Int} {c:List Value}
open Classical in
end
section
variable {P:Program} {ops:Array Oper} {rest:List Oper} {o:Oper} {a:Act} {Q:Exit→Act→World→Prop} {α:Type}
end
end Kd
end Go.Proofs.YtmhaiihjfgfaoaaW.PrintWords
end
section
namespace Go.Proofs.YtmhaiihjfgfaoaaW.PrintWords
open Go.RowKit
namespace Kd
section
variable {α:Type} {n:Nat} {d:Kd α} {hs:0 < d.sz} {w:World} {base:Nat} {ok:Nat→Prop} {xs:List α} {cs:List Value}
end
section
variable {α:Type} {n:Nat} {enc:α→Value} {h1:∀ x,(enc x).oneCell' = true} {hs:0 < (scalar enc h1).sz} {w:World} {base:Nat} {ok:Nat→Prop} {xs:List α} {cs:List Value}
end
end Kd
end Go.Proofs.YtmhaiihjfgfaoaaW.PrintWords
end
section
namespace Go.Proofs.YtmhaiihjfgfaoaaW.PrintWords
open Go.RowKit
section
variable {P:Program}
end
namespace Kd
section
variable {P:Program} {ops:Array Oper} {rest:List Oper} {o:Oper} {a:Act} {Q:Exit→Act→World→Prop} {Kc:Act→World→Prop} {α:Type}
end
section
variable {α:Type} {d:Kd α} {e:Nat} {w:World} {base:Nat} {ok:Nat→Prop} {v:Value} {xs:List α}
end
section
variable {P:Program} {ops:Array Oper} {rest:List Oper} {o:Oper} {a:Act} {Q:Exit→Act→World→Prop} {Kc:Act→World→Prop} {α:Type}
end
end Kd
end Go.Proofs.YtmhaiihjfgfaoaaW.PrintWords
end
section
namespace Go.Proofs.YtmhaiihjfgfaoaaW.PrintWords
open Go.RowKit
namespace Kd
section
variable {α:Type} {d:Kd α} {e base g n c:Nat} {ok:Nat→Prop} {w w0 W:World} {A:Option Addr} {xs:List α}
end
end Kd
end Go.Proofs.YtmhaiihjfgfaoaaW.PrintWords
end
section
namespace Go.Proofs.YtmhaiihjfgfaoaaW.PrintWords
open Go.RowKit
section
variable {w W W2:World} {S S2 S':Nat→Prop}
end
namespace Kd
section
variable {α:Type} {d:Kd α} {e base n c:Nat} {ok oki S S2:Nat→Prop} {w w0 W W1 W2:World} {v:Value} {A:Option Addr} {xs:List α} {i:Int} {cs:List Value}
end
end Kd
end Go.Proofs.YtmhaiihjfgfaoaaW.PrintWords
end
section
namespace Go.Proofs.YtmhaiihjfgfaoaaW.PrintWords
open Go.RowKit
def Q3 (P:World→Prop) (W:World) (ok:Nat→Prop):Prop:=∀ W':World,(∀ k,ok k→k < W.heap.size→W'.heap[k]? = W.heap[k]?)→P W'
theorem aeL {W W1:World} {k:Nat} (h:W1.heap[k]? = W.heap[k]?) (hlt:k < W.heap.size):k < W1.heap.size:=by
 rw [Array.getElem?_eq_getElem hlt] at h
 exact (Array.getElem?_eq_some_iff.1 h).1
namespace Q3
variable {P Q:World→Prop} {W W1:World} {ok ok':Nat→Prop}
theorem mono (h:Q3 P W ok) (hok:∀ k,ok k→ok' k):Q3 P W ok':=fun W' hW=>h W' (fun k hk hlt=>hW k (hok k hk) hlt)
theorem step (h:Q3 P W ok) (hm:∀ k,ok k→k < W.heap.size→W1.heap[k]? = W.heap[k]?):Q3 P W1 ok:=fun W' hW=>h W' (fun k hk hlt=>(hW k hk (aeL (hm k hk hlt) hlt)).trans (hm k hk hlt))
end Q3
namespace Kd
def F {α:Type} (d:Kd α) (W:World) (ok:Nat→Prop) (A:Option Addr) (n:Nat) (xs:List α):Prop:=Q3 (fun W=>d.C W A n xs) W ok
def FK {α:Type} (d:Kd α) (W:World) (ok:Nat→Prop) (x:α) (c:List Value):Prop:=Q3 (fun W=>d.K W x c) W ok
section
variable {α β:Type} {d:Kd α} {e base n n' cc g N:Nat} {ok ok' okp S:Nat→Prop} {w w0 w1 W W1:World} {A A':Option Addr} {u v v1:Value} {xs:List α} {xs':List β} {d':Kd β} {x:α} {c:List Value}
end
end Kd
end Go.Proofs.YtmhaiihjfgfaoaaW.PrintWords
end
section
namespace Go.Proofs.YtmhaiihjfgfaoaaW.PrintWords
open Go.RowKit
namespace Kd
section
variable {α:Type} {d:Kd α} {e base n cc g:Nat} {ok ok' okp S:Nat→Prop} {w w1 W W1:World} {A:Option Addr} {u v v1:Value} {xs:List α} {x:α} {c:List Value}
def N {α:Type} (d:Kd α) (e:Nat) (w:World) (base:Nat) (ok:Nat→Prop) (v:Value) (xs:List α):Prop :=
 (∀ k,v.ownBlock = some k→ok k)∧∃ rows:List (List Value),rows.length = xs.length∧(raw d.sz).R e w base (fun k=>some k = v.ownBlock) v rows∧∀ (j:Nat) (x:α) (c:List Value),xs[j]? = some x→rows[j]? = some c→FK d w (fun k=>ok k∧some k≠v.ownBlock) x c
end
end Kd
end Go.Proofs.YtmhaiihjfgfaoaaW.PrintWords
end
section
namespace Go.Proofs.YtmhaiihjfgfaoaaW.PrintWords
open Go.RowKit
namespace Kd
section
variable {α:Type} {d:Kd α} {W:World} {g n:Nat} {S ok:Nat→Prop} {A:Option Addr} {ad:Addr} {xs:List α}
end
end Kd
end Go.Proofs.YtmhaiihjfgfaoaaW.PrintWords
end
section
namespace Go.Proofs.YtmhaiihjfgfaoaaW.PrintWords
open Go.RowKit
section
variable {w w' u:World} {m B g:Nat} {o:Obj} {row:Option Nat} {S:Nat→Prop} {a:Addr} {v:Value}
end
namespace Kd
section
variable {α:Type} {d:Kd α} {e base n m:Nat} {ok:Nat→Prop} {w w':World} {v:Value} {A:Option Addr} {xs:List α}
end
end Kd
end Go.Proofs.YtmhaiihjfgfaoaaW.PrintWords
end
section
namespace Go.Proofs.YtmhaiihjfgfaoaaW.PrintWords
open Go.RowKit
section
variable {P:Program} {d:Nat} {xs ys:Array Value} {f:Field} {fs:List Field} {a b:Value} {r s:Bool} {w:World}
theorem K8 (hn:(f.name == "_") = false) (ha:(part f.type xs f.offset).run P w = .ok a w) (hb:(part f.type ys f.offset).run P w = .ok b w) (he:(Op.equalIn d f.type a b).run P w = .ok r w):(Op.eqFields d xs ys [f]).run P w = .ok r w:=by
 have hn':f.name≠"_":=by simpa using hn
 simp only [Op.eqFields,if_pos hn',Sem.run_bind,ha,hb,he,Result.andThen_ok]
 cases r <;> simp
theorem K7 (hn:(f.name == "_") = false) (ha:(part f.type xs f.offset).run P w = .ok a w) (hb:(part f.type ys f.offset).run P w = .ok b w) (he:(Op.equalIn d f.type a b).run P w = .ok r w) (hr:(Op.eqFields d xs ys fs).run P w = .ok s w):(Op.eqFields d xs ys (f :: fs)).run P w = .ok (r && s) w:=by
 have hn':f.name≠"_":=by simpa using hn
 rw [Op.eqFields]
 simp only [if_pos hn',Sem.run_bind,ha,hb,he,Result.andThen_ok]
 cases r
 ·simp
 ·simpa using hr
theorem R8 {t:TypeId} {fs:Array Field} (hu:P.underlying t = some (.struct fs)) (hp:P.stoodInHeld t = false) (h:(Op.eqFields d xs ys fs.toList).run P w = .ok r w):(Op.equalIn (d+1) t (.agg xs) (.agg ys)).run P w = .ok r w:=by
 have hf:P.fieldsOf t = fs:=by simp [Program.fieldsOf,hu]
 rw [run_equalIn_struct (P:=P) w d t xs ys (by rw [hf];exact hu) hp,hf]
 exact h
end
end Go.Proofs.YtmhaiihjfgfaoaaW.PrintWords
end
section
namespace Go.Proofs.YtmhaiihjfgfaoaaW.PrintWords
theorem oU.front {α:Type} {R:α→List Value→Prop} {size:Nat} {ps:List α} {cs c all:List Value} {p:α} (hp:R p c) (hc:c.length = size) (h:oU R size ps cs) (ha:c++cs = all):oU R size (p :: ps) all:=by
 subst ha
 refine ⟨by rw [List.length_append,hc,h.1,List.length_cons,Nat.succ_mul,Nat.add_comm],fun j q hq=>?_⟩
 cases j with
 |zero =>
  simp only [List.getElem?_cons_zero,Option.some.injEq] at hq
  subst hq
  rw [Nat.zero_mul,List.drop_zero,List.take_append_of_le_length (by omega),List.take_of_length_le (by omega)]
  exact hp
 |succ j =>
  simp only [List.getElem?_cons_succ] at hq
  have h1:=h.2 j q hq
  rw [Nat.succ_mul,List.drop_append,List.drop_of_length_le (by rw [hc];exact Nat.le_add_left _ _),List.nil_append,hc,Nat.add_sub_cancel]
  exact h1
theorem oU.c2 {α:Type} {R:α→List Value→Prop} {ps:List α} {cs:List Value} {p:α} {va vb:Value} (hp:R p [va,vb]) (h:oU R 2 ps cs):oU R 2 (p :: ps) (va :: vb :: cs):=oU.front hp rfl h rfl
end Go.Proofs.YtmhaiihjfgfaoaaW.PrintWords
end
section
namespace Go.Proofs.YtmhaiihjfgfaoaaW.PrintLast
section
variable {P:Program} {ops:Array Oper} {Q:Exit→Act→World→Prop} {md:Region.Mode} {T:Bool × List (List Nat × List Nat)} {B:List Nat} {O:List Nat} {b:Nat→Bool} {i j n:Nat}
end
end Go.Proofs.YtmhaiihjfgfaoaaW.PrintLast
end
section
namespace Go.Proofs.YtmhaiihjfgfaoaaW.PrintWords
open Go.RowKit
end Go.Proofs.YtmhaiihjfgfaoaaW.PrintWords
namespace Go.Proofs.YtmhaiihjfgfaoaaW.PrintLast
section
variable {ops:Array Oper} {a:Act} {o og:Oper} {g:Nat} {t:Tmp} {u:Bool}
end
end Go.Proofs.YtmhaiihjfgfaoaaW.PrintLast
end
section
namespace Go.Proofs.YtmhaiihjfgfaoaaW.PrintWords
open Go.RowKit
section
variable {P:Program} {ops:Array Oper} {rest:List Oper} {o:Oper} {a:Act} {Q:Exit→Act→World→Prop} {W:World}
theorem Ed (hw:Region.wanted o (yielded ops a.tmps) = true) (h:wpList P ops Q ({ o with guard:=none } :: rest) a W):wpList P ops Q (o :: rest) a W:=by
 have h1:Region.wanted { o with guard:=none } (yielded ops a.tmps) = true:=rfl
 unfold wpList at h ⊢
 rw [if_pos h1] at h
 rw [if_pos hw]
 exact h
end
end Go.Proofs.YtmhaiihjfgfaoaaW.PrintWords
end
section
namespace Go.Proofs.YtmhaiihjfgfaoaaW.PrintWords
open Go.RowKit
namespace Kd
section
variable {α:Type} {d:Kd α} {e base n cap g:Nat} {ok ok' okp:Nat→Prop} {w w1 W:World} {v v1:Value} {xs ys:List α}
end
section
variable {P:Program} {ops:Array Oper} {rest:List Oper} {o:Oper} {a:Act} {Q:Exit→Act→World→Prop} {Kc:Act→World→Prop} {α:Type}
end
end Kd
end Go.Proofs.YtmhaiihjfgfaoaaW.PrintWords
end
section
namespace Go.Proofs.YtmhaiihjfgfaoaaW.PrintMore
open Go.RowKit Go.Proofs.YtmhaiihjfgfaoaaW.PrintWords
namespace Kd
open Go.Proofs.YtmhaiihjfgfaoaaW.PrintWords.Kd
end Kd
namespace Kd
open Go.Proofs.YtmhaiihjfgfaoaaW.PrintWords.Kd
section
variable {α:Type} {d:Kd α} {e base g N:Nat} {ok:Nat→Prop} {W w1:World} {u v:Value} {xs:List α}
end
end Kd
theorem fo (k k':IntKind) (x y:Int):Builtin.max2 (.int k x) (.int k' y) = pure (.int k (if x < y then y else x)):=by simp only [Builtin.max2,gt_iff_lt]
theorem fq (k k':IntKind) (x y:Int):Builtin.min2 (.int k x) (.int k' y) = pure (.int k (if y < x then y else x)):=by simp only [Builtin.min2]
theorem gu (ats:Array TypeId) (ty:TypeId) (a b:Value):Builtin.max_ ats ty #[a,b] = (Builtin.max2 a b >>= fun s=>pure s):=by simp only [Builtin.max_,List.foldlM_cons,List.foldlM_nil]
theorem gz (ats:Array TypeId) (ty:TypeId) (a b:Value):Builtin.min_ ats ty #[a,b] = (Builtin.min2 a b >>= fun s=>pure s):=by simp only [Builtin.min_,List.foldlM_cons,List.foldlM_nil]
theorem fu (ats:Array TypeId) (ty:TypeId) (a b c d:Value):Builtin.max_ ats ty #[a,b,c,d] = (Builtin.max2 a b >>= fun s=>Builtin.max2 s c >>= fun s=>Builtin.max2 s d >>= fun s=>pure s):=by simp only [Builtin.max_,List.foldlM_cons,List.foldlM_nil]
end Go.Proofs.YtmhaiihjfgfaoaaW.PrintMore
namespace Go.Proofs.YtmhaiihjfgfaoaaW.PrintWords
open Go.RowKit
section
variable {P:Program} {ops:Array Oper} {rest:List Oper} {o:Oper} {a:Act} {Q:Exit→Act→World→Prop} {W:World}
theorem bT {f:FuncId} {as_:Array Operand} {ts:Array TypeId} (_ho:o.op = .call { callee:=.value (.func f),args:=as_,argTypes:=ts }) (h:wpList P ops Q (o :: rest) a W):wpList P ops Q (o :: rest) a W:=h
theorem EN {b:Builtin} {xs:Array Operand} {ts:Array TypeId} (_ho:o.op = .call { callee:=.builtin b,args:=xs,argTypes:=ts }) (h:wpList P ops Q (o :: rest) a W):wpList P ops Q (o :: rest) a W:=h
end
def mx (a b:Int):Int:=if a < b then b else a
def mn (a b:Int):Int:=if b < a then b else a
namespace Kd
section
variable {α:Type} {d:Kd α} {e base:Nat} {ok:Nat→Prop} {W w1:World} {v:Value} {xs:List α}
end
section
variable {α:Type} {d:Kd α} {e base g n cap:Nat} {ok oki okp:Nat→Prop} {W:World} {xs:List α} {i:Int} {c:List Value}
end
section
variable {α:Type} {d:Kd α} {e base b b' g N:Nat} {ok ok1:Nat→Prop} {W W2 w1:World} {u v:Value} {xs ys:List α} {S:Nat→Prop}
end
end Kd
end Go.Proofs.YtmhaiihjfgfaoaaW.PrintWords
namespace Go.Proofs.YtmhaiihjfgfaoaaW.PrintWords
open Go.RowKit
namespace Kd
def V {α:Type} (d:Kd α) (_e:Nat) (W:World) (_base:Nat) (ok:Nat→Prop) (v:Value) (xs:List α):Prop:=∃ A c,v = .slice A xs.length c∧xs.length≤c∧F d W ok A xs.length xs
section
variable {α β:Type} {d:Kd α} {e base base' n m c g N' lo hi:Nat} {ok ok' S:Nat→Prop} {w W w1:World} {A:Option Addr} {ad:Addr} {u v v1:Value} {xs:List α}
end
end Kd
end Go.Proofs.YtmhaiihjfgfaoaaW.PrintWords
end
section
namespace Go.Proofs.Ytmhaiihjfgfaoaa.Pr
open Go.RowKit Go.Proofs.YtmhaiihjfgfaoaaW.PrintWords Go.Proofs.YtmhaiihjfgfaoaaW.PrintLast Go.Proofs.YtmhaiihjfgfaoaaW.PrintMore
attribute [local go_sem] fo fq gu gz fu
set_option linter.unusedVariables false
set_option linter.unusedSimpArgs false
def aoE:Option Int→Value
 |none=>.nilIface
 |some c=>.iface 0 (.int .i64 c)
theorem aQ:aoE none = .nilIface:=rfl
theorem aT (c:Int):aoE (some c) = .iface 0 (.int .i64 c):=rfl
theorem aoF:(Try.prog.info? 4).map (fun i=>(i.zero,i.size,i.bytes)) = some (some (.bool false),1,1):=by kernel_rfl
theorem Zk:(Try.prog.info? 40).map (fun i=>(i.zero,i.size,i.bytes)) = some (some (.agg #[(.int .i64 0),(.int .i64 0),(.int .i64 0),(.int .i64 0)]),4,32):=by kernel_rfl
structure mZ where
 f0:Int
 f1:Int
def z27:mZ:=⟨(0:Int),(0:Int)⟩
def k27:Kd mZ:=Kd.iso (Kd.pair (Kd.int .i64) (Kd.int .i64)) (fun x:mZ=>(x.f0,x.f1))
theorem xg {w:World} {x:mZ} {cs:List Value} (h:k27.K w x cs):cs = [.int .i64 x.f0,.int .i64 x.f1]:=by
 obtain ⟨_,_,rfl,rfl,rfl⟩:=h
 exact rfl
theorem Nk {w:World} {base:Nat} {ok:Nat→Prop} {x:mZ} {cs:List Value} (h:k27.M w base ok x cs):cs = [.int .i64 x.f0,.int .i64 x.f1]:=by
 obtain ⟨_,_,rfl,rfl,rfl⟩:=h
 exact rfl
theorem wC (w:World) (base:Nat) (ok:Nat→Prop) (x:mZ):k27.M w base ok x [.int .i64 x.f0,.int .i64 x.f1]:=⟨[.int .i64 x.f0],[.int .i64 x.f1],rfl,rfl,rfl⟩
def oJ (xs:List mZ) (i:Int):mZ:=xs.getD i.toNat z27
theorem PK {w:World} {A:Option Addr} {n:Nat} {xs:List mZ} (h:Kd.C k27 w A n xs) (i:Int) (h0:0≤i) (h1:i < n):∃ ad,A = some ad∧w.cell? (ad.add (i.toNat*2)) = some (.int .i64 (oJ xs i).f0)∧w.cell? ⟨(ad.add (i.toNat*2)).block,(ad.add (i.toNat*2)).off+1,none⟩ = some (.int .i64 (oJ xs i).f1):=by
 obtain ⟨ad,c,e,_,hK,hc0⟩:=Kd.ZW h z27 i h0 h1
 have hc:∀ j u,c[j]? = some u→w.cell? (ad.add (i.toNat*2+j)) = some u:=hc0
 obtain rfl:=xg hK
 exact ⟨ad,e,hc 0 _ rfl,by rw [← zt _ _ 1 (by omega)];exact hc 1 _ rfl⟩
structure mQ where
 f0:mZ
 f1:mZ
def z40:mQ:=⟨z27,z27⟩
def xK:Kd mQ:=Kd.iso (Kd.pair k27 k27) (fun x:mQ=>(x.f0,x.f1))
theorem Z4 {w:World} {x:mQ} {cs:List Value} (h:xK.K w x cs):cs = [.int .i64 x.f0.f0,.int .i64 x.f0.f1,.int .i64 x.f1.f0,.int .i64 x.f1.f1]:=by
 obtain ⟨_,_,rfl,s0,s2⟩:=h
 obtain rfl:=xg s0
 obtain rfl:=xg s2
 exact rfl
theorem MS {w:World} {base:Nat} {ok:Nat→Prop} {x:mQ} {cs:List Value} (h:xK.M w base ok x cs):cs = [.int .i64 x.f0.f0,.int .i64 x.f0.f1,.int .i64 x.f1.f0,.int .i64 x.f1.f1]:=by
 obtain ⟨_,_,rfl,s0,s2⟩:=h
 obtain rfl:=Nk s0
 obtain rfl:=Nk s2
 exact rfl
theorem Vk (w:World) (base:Nat) (ok:Nat→Prop) (x:mQ):xK.M w base ok x [.int .i64 x.f0.f0,.int .i64 x.f0.f1,.int .i64 x.f1.f0,.int .i64 x.f1.f1]:=⟨[.int .i64 x.f0.f0,.int .i64 x.f0.f1],[.int .i64 x.f1.f0,.int .i64 x.f1.f1],rfl,(wC w base ok x.f0),(wC w base ok x.f1)⟩
def bn (xs:List mQ) (i:Int):mQ:=xs.getD i.toNat z40
theorem yE {w:World} {A:Option Addr} {n:Nat} {xs:List mQ} (h:Kd.C xK w A n xs) (i:Int) (h0:0≤i) (h1:i < n):∃ ad,A = some ad∧w.cell? (ad.add (i.toNat*4)) = some (.int .i64 (bn xs i).f0.f0)∧w.cell? ⟨(ad.add (i.toNat*4)).block,(ad.add (i.toNat*4)).off+1,none⟩ = some (.int .i64 (bn xs i).f0.f1)∧w.cell? ⟨(ad.add (i.toNat*4)).block,(ad.add (i.toNat*4)).off+2,none⟩ = some (.int .i64 (bn xs i).f1.f0)∧w.cell? ⟨(ad.add (i.toNat*4)).block,(ad.add (i.toNat*4)).off+3,none⟩ = some (.int .i64 (bn xs i).f1.f1):=by
 obtain ⟨ad,c,e,_,hK,hc0⟩:=Kd.ZW h z40 i h0 h1
 have hc:∀ j u,c[j]? = some u→w.cell? (ad.add (i.toNat*4+j)) = some u:=hc0
 obtain rfl:=Z4 hK
 exact ⟨ad,e,hc 0 _ rfl,by rw [← zt _ _ 1 (by omega)];exact hc 1 _ rfl,by rw [← zt _ _ 2 (by omega)];exact hc 2 _ rfl,by rw [← zt _ _ 3 (by omega)];exact hc 3 _ rfl⟩
structure S25 where
 f0:Int
 f1:Int
 f2:Int
 f3:Int
 f4:Int
 f5:Int
 f6:Int
 f7:(List Bool)
 f8:(List mQ)
def k25:Kd S25:=Kd.iso (Kd.pair (Kd.int .i64) (Kd.pair (Kd.int .i64) (Kd.pair (Kd.int .i64) (Kd.pair (Kd.int .i64) (Kd.pair (Kd.int .i64) (Kd.pair (Kd.int .i64) (Kd.pair (Kd.int .i64) (Kd.pair (Kd.slice 4 Kd.bool) (Kd.slice 40 xK))))))))) (fun x:S25=>(x.f0,x.f1,x.f2,x.f3,x.f4,x.f5,x.f6,x.f7,x.f8))
theorem Q4 {w:World} {x:S25} {cs:List Value} (h:k25.K w x cs):∃ A7 c7 A8 c8,cs = [.int .i64 x.f0,.int .i64 x.f1,.int .i64 x.f2,.int .i64 x.f3,.int .i64 x.f4,.int .i64 x.f5,.int .i64 x.f6,.slice A7 x.f7.length c7,.slice A8 x.f8.length c8]∧x.f7.length≤c7∧Kd.bool.C w A7 x.f7.length x.f7∧x.f8.length≤c8∧xK.C w A8 x.f8.length x.f8:=by
 obtain ⟨_,_,rfl,rfl,⟨_,_,rfl,rfl,⟨_,_,rfl,rfl,⟨_,_,rfl,rfl,⟨_,_,rfl,rfl,⟨_,_,rfl,rfl,⟨_,_,rfl,rfl,⟨_,_,rfl,⟨A7,c7,rfl,l7,g7⟩,⟨A8,c8,rfl,l8,g8⟩⟩⟩⟩⟩⟩⟩⟩⟩:=h
 exact ⟨A7,c7,A8,c8,rfl,l7,g7,l8,g8⟩
structure M0 where
 f0:Int
 f1:Int
def z33:M0:=⟨(0:Int),(0:Int)⟩
def k33:Kd M0:=Kd.iso (Kd.pair (Kd.int .i64) (Kd.int .i64)) (fun x:M0=>(x.f0,x.f1))
theorem Q5 {w:World} {x:M0} {cs:List Value} (h:k33.K w x cs):cs = [.int .i64 x.f0,.int .i64 x.f1]:=by
 obtain ⟨_,_,rfl,rfl,rfl⟩:=h
 exact rfl
theorem ahB (w:World) (x:M0):k33.K w x [.int .i64 x.f0,.int .i64 x.f1]:=⟨[.int .i64 x.f0],[.int .i64 x.f1],rfl,rfl,rfl⟩
def pg (xs:List M0) (i:Int):M0:=xs.getD i.toNat z33
theorem IA {w:World} {A:Option Addr} {n:Nat} {xs:List M0} (h:Kd.C k33 w A n xs) (i:Int) (h0:0≤i) (h1:i < n):∃ ad,A = some ad∧w.cell? (ad.add (i.toNat*2)) = some (.int .i64 (pg xs i).f0)∧w.cell? ⟨(ad.add (i.toNat*2)).block,(ad.add (i.toNat*2)).off+1,none⟩ = some (.int .i64 (pg xs i).f1):=by
 obtain ⟨ad,c,e,_,hK,hc0⟩:=Kd.ZW h z33 i h0 h1
 have hc:∀ j u,c[j]? = some u→w.cell? (ad.add (i.toNat*2+j)) = some u:=hc0
 obtain rfl:=Q5 hK
 exact ⟨ad,e,hc 0 _ rfl,by rw [← zt _ _ 1 (by omega)];exact hc 1 _ rfl⟩
structure S29 where
 f0:Int
 f1:Int
 f2:mZ
 f3:mZ
 f4:Int
def k29:Kd S29:=Kd.iso (Kd.pair (Kd.int .i64) (Kd.pair (Kd.int .i64) (Kd.pair k27 (Kd.pair k27 (Kd.int .i64))))) (fun x:S29=>(x.f0,x.f1,x.f2,x.f3,x.f4))
theorem Q6 {w:World} {x:S29} {cs:List Value} (h:k29.K w x cs):cs = [.int .i64 x.f0,.int .i64 x.f1,.int .i64 x.f2.f0,.int .i64 x.f2.f1,.int .i64 x.f3.f0,.int .i64 x.f3.f1,.int .i64 x.f4]:=by
 obtain ⟨_,_,rfl,rfl,⟨_,_,rfl,rfl,⟨_,_,rfl,s2,⟨_,_,rfl,s4,rfl⟩⟩⟩⟩:=h
 obtain rfl:=xg s2
 obtain rfl:=xg s4
 exact rfl
structure jI where
 f0:mZ
 f1:mZ
def z31:jI:=⟨z27,z27⟩
def k31:Kd jI:=Kd.iso (Kd.pair k27 k27) (fun x:jI=>(x.f0,x.f1))
theorem Q7 {w:World} {x:jI} {cs:List Value} (h:k31.K w x cs):cs = [.int .i64 x.f0.f0,.int .i64 x.f0.f1,.int .i64 x.f1.f0,.int .i64 x.f1.f1]:=by
 obtain ⟨_,_,rfl,s0,s2⟩:=h
 obtain rfl:=xg s0
 obtain rfl:=xg s2
 exact rfl
end Go.Proofs.Ytmhaiihjfgfaoaa.Pr
end
section
namespace Go.Proofs.Ytmhaiihjfgfaoaa.Pr
open Go.RowKit Go.Proofs.YtmhaiihjfgfaoaaW.PrintWords Go.Proofs.YtmhaiihjfgfaoaaW.PrintLast Go.Proofs.YtmhaiihjfgfaoaaW.PrintMore
attribute [local go_sem] fo fq gu gz fu
set_option linter.unusedVariables false
set_option linter.unusedSimpArgs false
def fT.f (aC:Int) (aD:Int) (aG:Int) (aH:Int) (aN:Int) (aK:Int) (aJ:Int) (aX:List Bool) (aM:List (mQ)):Option (Bool):=if (aX.length:Int) > 200 then (some true) else (some (decide ((aM.length:Int) > 3000)))
set_option maxHeartbeats 8000000 in
set_option maxRecDepth 100000 in
theorem fT.calls (aC:Int) (aD:Int) (aG:Int) (aH:Int) (aN:Int) (aK:Int) (aJ:Int) (bG:Option Addr) (bH:Nat) (aX:List Bool) (bO:Option Addr) (bM:Nat) (aM:List (mQ)) (r:Bool) (w:World) (lV:Kd.C Kd.bool w bG aX.length aX) (lW:aX.length≤bH) (lX:Kd.C xK w bO aM.length aM) (lY:aM.length≤bM) (h:fT.f aC aD aG aH aN aK aJ aX aM = some r):
 Calls Try.prog 22 #[.agg #[.int .i64 aC,.int .i64 aD,.int .i64 aG,.int .i64 aH,.int .i64 aN,.int .i64 aK,.int .i64 aJ,.slice bG aX.length bH,.slice bO aM.length bM]] w fun e w'=>e = .returned (.bool r)∧Below w.heap.size w w':=by
 have Dx:=Try.underlying25
 have jR:=aj.mk lV
 have jS:=aj.mk lW
 clear lV lW
 have jm:=aj.mk lX
 have kg:=aj.mk lY
 clear lX lY
 have HB:=aj.mk (Below.refl w.heap.size w)
 have H:(if (aX.length:Int) > 200 then (some true) else (some (decide ((aM.length:Int) > 3000)))) = some r:=h
 clear h
 by_cases c2:(aX.length:Int) > 200
 ·rw [if_pos c2] at H
  have SA:decide (200 < (aX.length:Int)) = true:=decide_eq_true c2
  have aBd:decide (200 < aX.length) = true:=decide_eq_true (by omega)
  clear c2
  obtain rfl:=Option.some.inj H
  go_enter Try.func22,Try.ntmps22
  go_wp2_with (first|((with_reducible refine bu (N:=1) rfl ?_);(try (refine Ed (by rfl) ?_;dsimp only));refine aY ?hg (N:=1) ?hd (cs:=#[.int .i64 aC,.int .i64 aD,.int .i64 aG,.int .i64 aH,.int .i64 aN,.int .i64 aK,.int .i64 aJ,.slice bG aX.length bH,.slice bO aM.length bM]) (t:=25) ?hr ?_;(case hd=>rfl);(case hg=>rfl);(case hr=>first|(go_simp;done)|(go_simp;rfl));intro qI hg w3 hbox hb;have bB:=aj.mk (ay (by repeat (first|(with_reducible first|exact HB.out|apply au|apply ah|apply av)|exact HB.out)) hb);have bC:=aj.mk (hbox);have bK:=aj.mk ((by rw [hg];exact (aA (by repeat (first|(with_reducible first|exact HB.out|apply au|apply ah|apply av)|exact HB.out))):w.heap.size≤qI));have bP:=aj.mk ((by rw [hg];exact (aA (by repeat (first|(with_reducible first|exact HB.out|apply au|apply ah|apply av)|exact HB.out))):w.heap.size≤qI));clear HB;have HB:=bB;have lK:=bC;have aoG:=bK;have Z5:=bP;clear bB bC bK bP;clear hb hbox hg;have SB:w3.cell? ⟨qI,0,none⟩ = some (.int .i64 aC):=(aa lK.out 0).trans rfl;have SC:w3.cell? ⟨qI,1,none⟩ = some (.int .i64 aD):=(aa lK.out 1).trans rfl;have Z6:w3.cell? ⟨qI,2,none⟩ = some (.int .i64 aG):=(aa lK.out 2).trans rfl;have Z7:w3.cell? ⟨qI,3,none⟩ = some (.int .i64 aH):=(aa lK.out 3).trans rfl;have ahC:w3.cell? ⟨qI,4,none⟩ = some (.int .i64 aN):=(aa lK.out 4).trans rfl;have ahD:w3.cell? ⟨qI,5,none⟩ = some (.int .i64 aK):=(aa lK.out 5).trans rfl;have ahE:w3.cell? ⟨qI,6,none⟩ = some (.int .i64 aJ):=(aa lK.out 6).trans rfl;have aBe:w3.cell? ⟨qI,7,none⟩ = some (.slice bG aX.length bH):=(aa lK.out 7).trans rfl;have aBf:w3.cell? ⟨qI,8,none⟩ = some (.slice bO aM.length bM):=(aa lK.out 8).trans rfl;have SE:=ae lK.out 0;have SF:=ae lK.out 1;have Z8:=ae lK.out 2;have Z9:=ae lK.out 3;have ahF:=ae lK.out 4;have ahG:=ae lK.out 5;have ahH:=ae lK.out 6;have aBg:=ae lK.out 7;have aBh:=ae lK.out 8))
  go_ret
  exact ⟨by first|rfl|(simp [aQ,aT] <;> rfl)|(simp [*,aQ,aT] <;> rfl),by repeat (first|(with_reducible first|exact HB.out|apply au|apply ah|apply av|refine ak ?_ Z5.out)|exact HB.out)⟩
 ·rw [if_neg c2] at H
  have SA:decide (200 < (aX.length:Int)) = false:=decide_eq_false c2
  have aBd:decide (200 < aX.length) = false:=decide_eq_false (by omega)
  clear c2
  obtain rfl:=Option.some.inj H
  go_enter Try.func22,Try.ntmps22
  go_wp2_with (first|((with_reducible refine bu (N:=1) rfl ?_);(try (refine Ed (by rfl) ?_;dsimp only));refine aY ?hg (N:=1) ?hd (cs:=#[.int .i64 aC,.int .i64 aD,.int .i64 aG,.int .i64 aH,.int .i64 aN,.int .i64 aK,.int .i64 aJ,.slice bG aX.length bH,.slice bO aM.length bM]) (t:=25) ?hr ?_;(case hd=>rfl);(case hg=>rfl);(case hr=>first|(go_simp;done)|(go_simp;rfl));intro qI hg w5 hbox hb;have bB:=aj.mk (ay (by repeat (first|(with_reducible first|exact HB.out|apply au|apply ah|apply av)|exact HB.out)) hb);have bC:=aj.mk (hbox);have bK:=aj.mk ((by rw [hg];exact (aA (by repeat (first|(with_reducible first|exact HB.out|apply au|apply ah|apply av)|exact HB.out))):w.heap.size≤qI));have bP:=aj.mk ((by rw [hg];exact (aA (by repeat (first|(with_reducible first|exact HB.out|apply au|apply ah|apply av)|exact HB.out))):w.heap.size≤qI));clear HB;have HB:=bB;have lK:=bC;have aoG:=bK;have Z5:=bP;clear bB bC bK bP;clear hb hbox hg;have agZ:w5.cell? ⟨qI,0,none⟩ = some (.int .i64 aC):=(aa lK.out 0).trans rfl;have ag0:w5.cell? ⟨qI,1,none⟩ = some (.int .i64 aD):=(aa lK.out 1).trans rfl;have ag1:w5.cell? ⟨qI,2,none⟩ = some (.int .i64 aG):=(aa lK.out 2).trans rfl;have ag2:w5.cell? ⟨qI,3,none⟩ = some (.int .i64 aH):=(aa lK.out 3).trans rfl;have ag3:w5.cell? ⟨qI,4,none⟩ = some (.int .i64 aN):=(aa lK.out 4).trans rfl;have ag4:w5.cell? ⟨qI,5,none⟩ = some (.int .i64 aK):=(aa lK.out 5).trans rfl;have ag5:w5.cell? ⟨qI,6,none⟩ = some (.int .i64 aJ):=(aa lK.out 6).trans rfl;have ag6:w5.cell? ⟨qI,7,none⟩ = some (.slice bG aX.length bH):=(aa lK.out 7).trans rfl;have ag7:w5.cell? ⟨qI,8,none⟩ = some (.slice bO aM.length bM):=(aa lK.out 8).trans rfl;have ag8:=ae lK.out 0;have ag9:=ae lK.out 1;have aha:=ae lK.out 2;have ahb:=ae lK.out 3;have ahc:=ae lK.out 4;have ahd:=ae lK.out 5;have ahe:=ae lK.out 6;have ahf:=ae lK.out 7;have ahg:=ae lK.out 8))
  go_ret
  exact ⟨by first|rfl|(simp [aQ,aT] <;> rfl)|(simp [*,aQ,aT] <;> rfl),by repeat (first|(with_reducible first|exact HB.out|apply au|apply ah|apply av|refine ak ?_ Z5.out)|exact HB.out)⟩
end Go.Proofs.Ytmhaiihjfgfaoaa.Pr
end
section
namespace Go.Proofs.Ytmhaiihjfgfaoaa.Pr
open Go.RowKit Go.Proofs.YtmhaiihjfgfaoaaW.PrintWords Go.Proofs.YtmhaiihjfgfaoaaW.PrintLast Go.Proofs.YtmhaiihjfgfaoaaW.PrintMore
attribute [local go_sem] fo fq gu gz fu
set_option linter.unusedVariables false
set_option linter.unusedSimpArgs false
def bg.f (a0:Int) (a1:Int) (a2:Int):Option (Bool):=if a0 ≥ a1 then (some (decide (a0≤a2))) else (some false)
set_option maxHeartbeats 8000000 in
set_option maxRecDepth 100000 in
theorem bg.calls (a0:Int) (a1:Int) (a2:Int) (r:Bool) (w:World) (h:bg.f a0 a1 a2 = some r):
 Calls Try.prog 112 #[.int .i64 a0,.int .i64 a1,.int .i64 a2] w fun e w'=>e = .returned (.bool r)∧qG w w':=by
 have H:(if a0 ≥ a1 then (some (decide (a0≤a2))) else (some false)) = some r:=h
 clear h
 by_cases c4:a0 ≥ a1
 ·rw [if_pos c4] at H
  have wV:decide (a1≤a0) = true:=decide_eq_true c4
  clear c4
  obtain rfl:=Option.some.inj H
  go_enter Try.func112,Try.ntmps112
  go_wp2
  go_ret
  exact ⟨by first|rfl|(simp;done)|(simp [*];done),by repeat (first|exact qG.refl _|apply qG.step)⟩
 ·rw [if_neg c4] at H
  have wV:decide (a1≤a0) = false:=decide_eq_false c4
  clear c4
  obtain rfl:=Option.some.inj H
  go_enter Try.func112,Try.ntmps112
  go_wp2
  go_ret
  exact ⟨by first|rfl|(simp;done)|(simp [*];done),by repeat (first|exact qG.refl _|apply qG.step)⟩
end Go.Proofs.Ytmhaiihjfgfaoaa.Pr
end
section
namespace Go.Proofs.Ytmhaiihjfgfaoaa.Pr
open Go.RowKit Go.Proofs.YtmhaiihjfgfaoaaW.PrintWords Go.Proofs.YtmhaiihjfgfaoaaW.PrintLast Go.Proofs.YtmhaiihjfgfaoaaW.PrintMore
attribute [local go_sem] fo fq gu gz fu
set_option linter.unusedVariables false
set_option linter.unusedSimpArgs false
def dG.f (aC:Int) (aD:Int):Option (Bool):=if aC≤aD then ((bg.f aC (-1073741824) 1073741824).bind fun t103=>(if t103 = true then ((bg.f aD (-1073741824) 1073741824).bind fun t104=>(some t104)) else (some false))) else (some false)
set_option maxHeartbeats 8000000 in
set_option maxRecDepth 100000 in
theorem dG.calls (aC:Int) (aD:Int) (r:Bool) (w:World) (h:dG.f aC aD = some r):
 Calls Try.prog 111 #[.agg #[.int .i64 aC,.int .i64 aD]] w fun e w'=>e = .returned (.bool r)∧Below w.heap.size w w':=by
 have sU:=Try.underlying27
 have HB:=aj.mk (Below.refl w.heap.size w)
 have H:(if aC≤aD then ((bg.f aC (-1073741824) 1073741824).bind fun t103=>(if t103 = true then ((bg.f aD (-1073741824) 1073741824).bind fun t104=>(some t104)) else (some false))) else (some false)) = some r:=h
 clear h
 by_cases c2:aC≤aD
 ·rw [if_pos c2] at H
  have SA:decide (aC≤aD) = true:=decide_eq_true c2
  clear c2
  replace H:=Option.bind_eq_some_iff.mp H
  obtain ⟨t103,ZA,H⟩:=H
  replace H:(if t103 = true then ((bg.f aD (-1073741824) 1073741824).bind fun t104=>(some t104)) else (some false)) = some r:=H
  have A3:=aj.mk ZA
  clear ZA
  by_cases c4:t103 = true
  ·subst c4
   have H1:((bg.f aD (-1073741824) 1073741824).bind fun t104=>(some t104)) = some r:=by rw [if_pos rfl] at H;exact H
   clear H
   have H:=H1
   clear H1
   replace H:=Option.bind_eq_some_iff.mp H
   obtain ⟨t104,Vs,H⟩:=H
   replace H:(some t104) = some r:=H
   have A5:=aj.mk Vs
   clear Vs
   obtain rfl:=Option.some.inj H
   go_enter Try.func111,Try.ntmps111
   go_wp2_with (first|((with_reducible refine bu (N:=1) rfl ?_);refine aY ?hg (N:=1) ?hd (cs:=#[.int .i64 aC,.int .i64 aD]) (t:=27) ?hr ?_;(case hd=>rfl);(case hg=>rfl);(case hr=>first|(go_simp;done)|(go_simp;rfl));intro ym hg w6 hbox hb;have bB:=aj.mk (ay (by repeat (first|(with_reducible first|exact HB.out|apply au|apply ah|apply av)|exact HB.out)) hb);have bC:=aj.mk (hbox);have bK:=aj.mk ((by rw [hg];exact (aA (by repeat (first|(with_reducible first|exact HB.out|apply au|apply ah|apply av)|exact HB.out))):w.heap.size≤ym));have bP:=aj.mk ((by rw [hg];exact (aA (by repeat (first|(with_reducible first|exact HB.out|apply au|apply ah|apply av)|exact HB.out))):w.heap.size≤ym));clear HB;have HB:=bB;have yn:=bC;have agx:=bK;have Q8:=bP;clear bB bC bK bP;clear hb hbox hg;have yG:w6.cell? ⟨ym,0,none⟩ = some (.int .i64 aC):=(aa yn.out 0).trans rfl;have yH:w6.cell? ⟨ym,1,none⟩ = some (.int .i64 aD):=(aa yn.out 1).trans rfl;have yI:=ae yn.out 0;have yJ:=ae yn.out 1)|(go_at_call 112;(with_reducible refine (bg.calls aC (-1073741824) 1073741824 true _ A3.out).mono ?_);rintro e w' ⟨rfl,⟨nd,rfl⟩⟩)|(go_at_call 112;(with_reducible refine (bg.calls aD (-1073741824) 1073741824 t104 _ A5.out).mono ?_);rintro e w' ⟨rfl,⟨nd,rfl⟩⟩))
   go_ret
   exact ⟨by first|rfl|(simp [aQ,aT] <;> rfl)|(simp [*,aQ,aT] <;> rfl),by repeat (first|(with_reducible first|exact HB.out|apply au|apply ah|apply av|refine ak ?_ Q8.out)|exact HB.out)⟩
  ·replace c4:=Bool.eq_false_iff.mpr c4
   subst c4
   have H1:(some false) = some r:=by rw [if_neg (show ¬ (false = true) by decide)] at H;exact H
   clear H
   have H:=H1
   clear H1
   obtain rfl:=Option.some.inj H
   go_enter Try.func111,Try.ntmps111
   go_wp2_with (first|((with_reducible refine bu (N:=1) rfl ?_);refine aY ?hg (N:=1) ?hd (cs:=#[.int .i64 aC,.int .i64 aD]) (t:=27) ?hr ?_;(case hd=>rfl);(case hg=>rfl);(case hr=>first|(go_simp;done)|(go_simp;rfl));intro ym hg w8 hbox hb;have bB:=aj.mk (ay (by repeat (first|(with_reducible first|exact HB.out|apply au|apply ah|apply av)|exact HB.out)) hb);have bC:=aj.mk (hbox);have bK:=aj.mk ((by rw [hg];exact (aA (by repeat (first|(with_reducible first|exact HB.out|apply au|apply ah|apply av)|exact HB.out))):w.heap.size≤ym));have bP:=aj.mk ((by rw [hg];exact (aA (by repeat (first|(with_reducible first|exact HB.out|apply au|apply ah|apply av)|exact HB.out))):w.heap.size≤ym));clear HB;have HB:=bB;have yn:=bC;have agx:=bK;have Q8:=bP;clear bB bC bK bP;clear hb hbox hg;have AX:w8.cell? ⟨ym,0,none⟩ = some (.int .i64 aC):=(aa yn.out 0).trans rfl;have AY:w8.cell? ⟨ym,1,none⟩ = some (.int .i64 aD):=(aa yn.out 1).trans rfl;have AZ:=ae yn.out 0;have Ba:=ae yn.out 1)|(go_at_call 112;(with_reducible refine (bg.calls aC (-1073741824) 1073741824 false _ A3.out).mono ?_);rintro e w' ⟨rfl,⟨nd,rfl⟩⟩))
   go_ret
   exact ⟨by first|rfl|(simp [aQ,aT] <;> rfl)|(simp [*,aQ,aT] <;> rfl),by repeat (first|(with_reducible first|exact HB.out|apply au|apply ah|apply av|refine ak ?_ Q8.out)|exact HB.out)⟩
 ·rw [if_neg c2] at H
  have SA:decide (aC≤aD) = false:=decide_eq_false c2
  clear c2
  obtain rfl:=Option.some.inj H
  go_enter Try.func111,Try.ntmps111
  go_wp2_with (first|((with_reducible refine bu (N:=1) rfl ?_);refine aY ?hg (N:=1) ?hd (cs:=#[.int .i64 aC,.int .i64 aD]) (t:=27) ?hr ?_;(case hd=>rfl);(case hg=>rfl);(case hr=>first|(go_simp;done)|(go_simp;rfl));intro ym hg Mi hbox hb;have bB:=aj.mk (ay (by repeat (first|(with_reducible first|exact HB.out|apply au|apply ah|apply av)|exact HB.out)) hb);have bC:=aj.mk (hbox);have bK:=aj.mk ((by rw [hg];exact (aA (by repeat (first|(with_reducible first|exact HB.out|apply au|apply ah|apply av)|exact HB.out))):w.heap.size≤ym));have bP:=aj.mk ((by rw [hg];exact (aA (by repeat (first|(with_reducible first|exact HB.out|apply au|apply ah|apply av)|exact HB.out))):w.heap.size≤ym));clear HB;have HB:=bB;have yn:=bC;have agx:=bK;have Q8:=bP;clear bB bC bK bP;clear hb hbox hg;have CP:Mi.cell? ⟨ym,0,none⟩ = some (.int .i64 aC):=(aa yn.out 0).trans rfl;have CQ:Mi.cell? ⟨ym,1,none⟩ = some (.int .i64 aD):=(aa yn.out 1).trans rfl;have CR:=ae yn.out 0;have CS:=ae yn.out 1))
  go_ret
  exact ⟨by first|rfl|(simp [aQ,aT] <;> rfl)|(simp [*,aQ,aT] <;> rfl),by repeat (first|(with_reducible first|exact HB.out|apply au|apply ah|apply av|refine ak ?_ Q8.out)|exact HB.out)⟩
end Go.Proofs.Ytmhaiihjfgfaoaa.Pr
end
section
namespace Go.Proofs.Ytmhaiihjfgfaoaa.Pr
open Go.RowKit Go.Proofs.YtmhaiihjfgfaoaaW.PrintWords Go.Proofs.YtmhaiihjfgfaoaaW.PrintLast Go.Proofs.YtmhaiihjfgfaoaaW.PrintMore
attribute [local go_sem] fo fq gu gz fu
set_option linter.unusedVariables false
set_option linter.unusedSimpArgs false
def cK.f (aC:Int) (aD:Int) (a1:Int) (a2:Int):Option (Bool):=(dG.f aC aD).bind fun t106=>(if t106 = true then (if aC ≥ a1 then (some (decide (aD≤a2))) else (some false)) else (some false))
set_option maxHeartbeats 8000000 in
set_option maxRecDepth 100000 in
theorem cK.calls (aC:Int) (aD:Int) (a1:Int) (a2:Int) (r:Bool) (w:World) (h:cK.f aC aD a1 a2 = some r):
 Calls Try.prog 78 #[.agg #[.int .i64 aC,.int .i64 aD],.int .i64 a1,.int .i64 a2] w fun e w'=>e = .returned (.bool r)∧Below w.heap.size w w':=by
 have sU:=Try.underlying27
 have HB:=aj.mk (Below.refl w.heap.size w)
 have H:((dG.f aC aD).bind fun t106=>(if t106 = true then (if aC ≥ a1 then (some (decide (aD≤a2))) else (some false)) else (some false))) = some r:=h
 clear h
 replace H:=Option.bind_eq_some_iff.mp H
 obtain ⟨t106,Nl,H⟩:=H
 replace H:(if t106 = true then (if aC ≥ a1 then (some (decide (aD≤a2))) else (some false)) else (some false)) = some r:=H
 have A4:=aj.mk Nl
 clear Nl
 by_cases c5:t106 = true
 ·subst c5
  have H1:(if aC ≥ a1 then (some (decide (aD≤a2))) else (some false)) = some r:=by rw [if_pos rfl] at H;exact H
  clear H
  have H:=H1
  clear H1
  by_cases c6:aC ≥ a1
  ·rw [if_pos c6] at H
   have Lu:decide (a1≤aC) = true:=decide_eq_true c6
   clear c6
   obtain rfl:=Option.some.inj H
   go_enter Try.func78,Try.ntmps78
   go_wp2_with (first|((with_reducible refine bu (N:=3) rfl ?_);refine aY ?hg (N:=3) ?hd (cs:=#[.int .i64 aC,.int .i64 aD]) (t:=27) ?hr ?_;(case hd=>rfl);(case hg=>rfl);(case hr=>first|(go_simp;done)|(go_simp;rfl));intro rE hg w7 hbox hb;have bB:=aj.mk (ay (by repeat (first|(with_reducible first|exact HB.out|apply au|apply ah|apply av)|exact HB.out)) hb);have bC:=aj.mk (hbox);have bK:=aj.mk ((by rw [hg];exact (aA (by repeat (first|(with_reducible first|exact HB.out|apply au|apply ah|apply av)|exact HB.out))):w.heap.size≤rE));have bP:=aj.mk ((by rw [hg];exact (aA (by repeat (first|(with_reducible first|exact HB.out|apply au|apply ah|apply av)|exact HB.out))):w.heap.size≤rE));clear HB;have HB:=bB;have nC:=bC;have agy:=bK;have I7:=bP;clear bB bC bK bP;clear hb hbox hg;have Hr:w7.cell? ⟨rE,0,none⟩ = some (.int .i64 aC):=(aa nC.out 0).trans rfl;have Ht:w7.cell? ⟨rE,1,none⟩ = some (.int .i64 aD):=(aa nC.out 1).trans rfl;have Hu:=ae nC.out 0;have Hw:=ae nC.out 1)|((with_reducible refine bT (f:=111) rfl ?_);refine fM (some 8) rfl rfl Try.func111 (by kernel_rfl) rfl #[.agg #[.int .i64 aC,.int .i64 aD]] rfl (by (try simp only [List.map_toArray,List.map_cons,List.map_nil]);first|done|rfl|(simp only [List.length_drop,List.length_take];rfl)) ?_;(with_reducible refine (dG.calls aC aD true _ A4.out).mono ?_);rintro e w9 ⟨rfl,hb⟩;refine ⟨_,rfl,?_⟩;have bB:=aj.mk (ax (g:=rE) (o:=.cells #[.int .i64 aC,.int .i64 aD] 27 (0,0)) (by (with_reducible repeat (first|refine ag ?_ _|refine ai ?_|refine af ?_ _));exact nC.out) hb);have bC:=aj.mk (ay (by repeat (first|(with_reducible first|exact HB.out|apply au|apply ah|apply av|refine ak ?_ I7.out)|exact HB.out)) hb);clear nC;clear HB;have nC:=bB;have HB:=bC;clear bB bC;(try clear hb);(try clear hb2);(try clear hk);(try clear hi);have vU:w9.cell? ⟨rE,0,none⟩ = some (.int .i64 aC):=(aa nC.out 0).trans rfl;have vV:w9.cell? ⟨rE,1,none⟩ = some (.int .i64 aD):=(aa nC.out 1).trans rfl;have vW:=ae nC.out 0;have vX:=ae nC.out 1))
   go_ret
   exact ⟨by first|rfl|(simp [aQ,aT] <;> rfl)|(simp [*,aQ,aT] <;> rfl),by repeat (first|(with_reducible first|exact HB.out|apply au|apply ah|apply av|refine ak ?_ I7.out)|exact HB.out)⟩
  ·rw [if_neg c6] at H
   have Lu:decide (a1≤aC) = false:=decide_eq_false c6
   clear c6
   obtain rfl:=Option.some.inj H
   go_enter Try.func78,Try.ntmps78
   go_wp2_with (first|((with_reducible refine bu (N:=3) rfl ?_);refine aY ?hg (N:=3) ?hd (cs:=#[.int .i64 aC,.int .i64 aD]) (t:=27) ?hr ?_;(case hd=>rfl);(case hg=>rfl);(case hr=>first|(go_simp;done)|(go_simp;rfl));intro rE hg Md hbox hb;have bB:=aj.mk (ay (by repeat (first|(with_reducible first|exact HB.out|apply au|apply ah|apply av)|exact HB.out)) hb);have bC:=aj.mk (hbox);have bK:=aj.mk ((by rw [hg];exact (aA (by repeat (first|(with_reducible first|exact HB.out|apply au|apply ah|apply av)|exact HB.out))):w.heap.size≤rE));have bP:=aj.mk ((by rw [hg];exact (aA (by repeat (first|(with_reducible first|exact HB.out|apply au|apply ah|apply av)|exact HB.out))):w.heap.size≤rE));clear HB;have HB:=bB;have nC:=bC;have agy:=bK;have I7:=bP;clear bB bC bK bP;clear hb hbox hg;have xY:Md.cell? ⟨rE,0,none⟩ = some (.int .i64 aC):=(aa nC.out 0).trans rfl;have xZ:Md.cell? ⟨rE,1,none⟩ = some (.int .i64 aD):=(aa nC.out 1).trans rfl;have x8:=ae nC.out 0;have x9:=ae nC.out 1)|((with_reducible refine bT (f:=111) rfl ?_);refine fM (some 8) rfl rfl Try.func111 (by kernel_rfl) rfl #[.agg #[.int .i64 aC,.int .i64 aD]] rfl (by (try simp only [List.map_toArray,List.map_cons,List.map_nil]);first|done|rfl|(simp only [List.length_drop,List.length_take];rfl)) ?_;(with_reducible refine (dG.calls aC aD true _ A4.out).mono ?_);rintro e D9 ⟨rfl,hb⟩;refine ⟨_,rfl,?_⟩;have bB:=aj.mk (ax (g:=rE) (o:=.cells #[.int .i64 aC,.int .i64 aD] 27 (0,0)) (by (with_reducible repeat (first|refine ag ?_ _|refine ai ?_|refine af ?_ _));exact nC.out) hb);have bC:=aj.mk (ay (by repeat (first|(with_reducible first|exact HB.out|apply au|apply ah|apply av|refine ak ?_ I7.out)|exact HB.out)) hb);clear nC;clear HB;have nC:=bB;have HB:=bC;clear bB bC;(try clear hb);(try clear hb2);(try clear hk);(try clear hi);have xw:D9.cell? ⟨rE,0,none⟩ = some (.int .i64 aC):=(aa nC.out 0).trans rfl;have xx:D9.cell? ⟨rE,1,none⟩ = some (.int .i64 aD):=(aa nC.out 1).trans rfl;have xy:=ae nC.out 0;have xz:=ae nC.out 1))
   go_ret
   exact ⟨by first|rfl|(simp [aQ,aT] <;> rfl)|(simp [*,aQ,aT] <;> rfl),by repeat (first|(with_reducible first|exact HB.out|apply au|apply ah|apply av|refine ak ?_ I7.out)|exact HB.out)⟩
 ·replace c5:=Bool.eq_false_iff.mpr c5
  subst c5
  have H1:(some false) = some r:=by rw [if_neg (show ¬ (false = true) by decide)] at H;exact H
  clear H
  have H:=H1
  clear H1
  obtain rfl:=Option.some.inj H
  go_enter Try.func78,Try.ntmps78
  go_wp2_with (first|((with_reducible refine bu (N:=3) rfl ?_);refine aY ?hg (N:=3) ?hd (cs:=#[.int .i64 aC,.int .i64 aD]) (t:=27) ?hr ?_;(case hd=>rfl);(case hg=>rfl);(case hr=>first|(go_simp;done)|(go_simp;rfl));intro rE hg Ji hbox hb;have bB:=aj.mk (ay (by repeat (first|(with_reducible first|exact HB.out|apply au|apply ah|apply av)|exact HB.out)) hb);have bC:=aj.mk (hbox);have bK:=aj.mk ((by rw [hg];exact (aA (by repeat (first|(with_reducible first|exact HB.out|apply au|apply ah|apply av)|exact HB.out))):w.heap.size≤rE));have bP:=aj.mk ((by rw [hg];exact (aA (by repeat (first|(with_reducible first|exact HB.out|apply au|apply ah|apply av)|exact HB.out))):w.heap.size≤rE));clear HB;have HB:=bB;have nC:=bC;have agy:=bK;have I7:=bP;clear bB bC bK bP;clear hb hbox hg;have Cz:Ji.cell? ⟨rE,0,none⟩ = some (.int .i64 aC):=(aa nC.out 0).trans rfl;have CB:Ji.cell? ⟨rE,1,none⟩ = some (.int .i64 aD):=(aa nC.out 1).trans rfl;have CE:=ae nC.out 0;have CF:=ae nC.out 1)|((with_reducible refine bT (f:=111) rfl ?_);refine fM (some 8) rfl rfl Try.func111 (by kernel_rfl) rfl #[.agg #[.int .i64 aC,.int .i64 aD]] rfl (by (try simp only [List.map_toArray,List.map_cons,List.map_nil]);first|done|rfl|(simp only [List.length_drop,List.length_take];rfl)) ?_;(with_reducible refine (dG.calls aC aD false _ A4.out).mono ?_);rintro e zK ⟨rfl,hb⟩;refine ⟨_,rfl,?_⟩;have bB:=aj.mk (ax (g:=rE) (o:=.cells #[.int .i64 aC,.int .i64 aD] 27 (0,0)) (by (with_reducible repeat (first|refine ag ?_ _|refine ai ?_|refine af ?_ _));exact nC.out) hb);have bC:=aj.mk (ay (by repeat (first|(with_reducible first|exact HB.out|apply au|apply ah|apply av|refine ak ?_ I7.out)|exact HB.out)) hb);clear nC;clear HB;have nC:=bB;have HB:=bC;clear bB bC;(try clear hb);(try clear hb2);(try clear hk);(try clear hi)))
  go_ret
  exact ⟨by first|rfl|(simp [aQ,aT] <;> rfl)|(simp [*,aQ,aT] <;> rfl),by repeat (first|(with_reducible first|exact HB.out|apply au|apply ah|apply av|refine ak ?_ I7.out)|exact HB.out)⟩
end Go.Proofs.Ytmhaiihjfgfaoaa.Pr
end
