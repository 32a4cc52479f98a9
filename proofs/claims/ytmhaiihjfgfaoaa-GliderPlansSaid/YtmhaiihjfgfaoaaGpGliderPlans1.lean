import Derived.Below
import Derived.Deep.Draws
import Derived.Deep.AppendLies
import Derived.Maps.AppendAt
import Derived.OwnWalk
import Derived.Laws.BytesArg
import Derived.Laws.MakeOwn
import Derived.Laws.OwnMore
import Derived.Deep.OwnRows
import Derived.Tactics
import Derived.Lib.ConvBytes
import Derived.Laws.Slices
import Derived.WalkKit
import Derived.KernelRfl
import Derived.RowKit3
import Derived.Deep.LoopGhost
import Derived.Deep.QuietTactic
import Derived.BigQuiet
import Derived.WideLaws
import Derived.Deep.DeepCutAuto
import Derived.Deep.CutBlock
import Derived.Deep.RegionHeld3
import Derived.Laws.Rows
import Derived.Lib.AppendStr
import Derived.ArgAppend
import Derived.Laws.IdiomCopy
import Derived.RowKit
import Derived.OrdersHeld
import Derived.Laws.BitsLemmas
import Derived.Laws.StructEq
import Derived.Test.YtmhaiihjfgfaoaaProg
set_option linter.unusedVariables false
set_option linter.unusedSimpArgs false
open Option.some renaming inj → bh
open Option renaming bind_some → aE
open List renaming setIfInBounds_toArray → ap, set_cons_zero → aq, set_cons_succ → ar
open Go.World renaming block_lt_of_cell? → bd
set_option maxRecDepth 100000
set_option maxHeartbeats 80000000
open Go.Value renaming int → Z
open Go.IntKind renaming i64 → ab
open Bool renaming true → ac, false → al
open Go.RowKit renaming wrap64 → an
open Go renaming World → ao
section
namespace Go.Proofs.YtmhaiihjfgfaoaaW.bu
open Go.RowKit
structure af (p:Prop):Prop where mk :: (out:p)
structure su (w w':ao):Prop where mk :: (out:∃ n,w' = w.drewN n)
theorem su.refl (w:ao):su w w:=⟨⟨0,rfl⟩⟩
theorem su.step {w w':ao} (h:su w w') (n:Nat):su w (w'.drewN n):=by
 obtain ⟨m,rfl⟩:=h
 exact ⟨⟨m+n,World.drewN_drewN ..⟩⟩
theorem su.below {w w':ao} (h:su w w'):Below w.heap.size w w':=by
 obtain ⟨n,rfl⟩:=h
 induction n with
 |zero=>exact Below.refl _ _
 |succ n ih=>rw [← World.drew_drewN];exact ih.drew
def rd (xs:List Int) (i:Int):Int:=xs.getD i.toNat 0
theorem aH {w W:ao} (h:Below w.heap.size w W) (o:Obj):Below w.heap.size w (W.alloc o):=h.alloc h.size o
theorem af3 {B:Nat} {w W:ao} (h:Below B w W):Below B w W.drew:=⟨h.os,h.tape,h.output,h.size,h.block⟩
theorem ng {B:Nat} {w W:ao} (h:Below B w W) (n:Nat):Below B w (W.drewN n):=⟨h.os,h.tape,h.output,h.size,h.block⟩
theorem af4 {B:Nat} {w w1 w2:ao} (h:Below B w w1) (hB:B≤w1.heap.size) (k:Below w1.heap.size w1 w2):Below B w w2 :=
 h.trans ⟨k.os,k.tape,k.output,k.size,fun i hi=>k.block i (Nat.lt_of_lt_of_le hi hB)⟩
theorem Xt {w w1:ao} (h:Below w.heap.size w w1) {a:Addr} {v:Value} (hc:w.cell? a = some v):w1.cell? a = some v:=(h.cell (bd w a hc)).trans hc
theorem add_plain (g j:Nat):(⟨g,0,none⟩:Addr).add j = ⟨g,j,none⟩:=by unfold Addr.add;split <;> simp_all
theorem ass (W:ao) (base:Nat) (e:TypeId) (size:Nat):W.ownsRow base e size (.slice none 0 0) 0 []:=⟨by simp,.inl ⟨rfl,rfl⟩⟩
theorem Cf {w:ao} {base:Nat} {e:TypeId} {size n:Nat} {v:Value} {xs:List Value} (h:w.ownsRow base e size v n xs) (k:Nat) (hk:v.ownBlock = some k):base≤k:=by
 rcases h.2 with ⟨rfl,_⟩|⟨g,cap,cur,rfl,hb,_⟩
 ·simp [Value.ownBlock] at hk
 ·have:g = k:=by simpa [Value.ownBlock] using hk
  omega
theorem an4 {w:ao} {base:Nat} {e:TypeId} {size n:Nat} {v:Value} {xs:List Value} (h:w.ownsRow base e size v n xs) (k:Nat) (hk:v.ownBlock = some k):k < w.heap.size:=by
 rcases h.2 with ⟨rfl,_⟩|⟨g,cap,cur,rfl,hb,hh,_⟩
 ·simp [Value.ownBlock] at hk
 ·have:g = k:=by simpa [Value.ownBlock] using hk
  subst this
  exact (Array.getElem?_eq_some_iff.1 hh).1
def oV {α:Type} (a b:Option α):Prop:=∀ r,a = some r→b = some r
theorem oV.refl {α:Type} (a:Option α):oV a a:=fun _ h=>h
theorem oV.none {α:Type} (b:Option α):oV Option.none b:=fun _ h=>by cases h
theorem oV.trans {α:Type} {a b c:Option α} (h:oV a b) (k:oV b c):oV a c:=fun r hr=>k r (h r hr)
theorem oV.ite {α:Type} {c:Prop} [Decidable c] {a a' b b':Option α} (h:oV a a') (k:oV b b'):oV (if c then a else b) (if c then a' else b'):=by
 split
 ·exact h
 ·exact k
theorem oV.bind {α β:Type} {a a':Option α} {f f':α→Option β} (h:oV a a') (k:∀ x,oV (f x) (f' x)):oV (a.bind f) (a'.bind f'):=by
 intro r hr
 obtain ⟨x,hx,hf⟩:=Option.bind_eq_some_iff.1 hr
 exact Option.bind_eq_some_iff.2 ⟨x,h x hx,k x r hf⟩
theorem Rn {α:Type} {g:Nat→Option α} (h:∀ k,oV (g k) (g (k+1))) (k:Nat):∀ j,oV (g k) (g (k+j))
 |0=>oV.refl _
 |j+1=>(Rn h k j).trans (h (k+j))
theorem PT {α:Type} {g:Nat→Option α} (h:∀ k,oV (g k) (g (k+1))) {k k':Nat} (hk:k≤k') {r:α} (hr:g k = some r):g k' = some r:=by
 have:=Rn h k (k' - k) r hr
 rwa [Nat.add_sub_cancel' hk] at this
def lV {α:Type} (R:α→List Value→Prop) (size:Nat) (ps:List α) (cs:List Value):Prop :=
 cs.length = ps.length*size∧∀ j p,ps[j]? = some p→R p ((cs.drop (j*size)).take size)
theorem lV.none {α:Type} (R:α→List Value→Prop) (size:Nat):lV R size [] []:=⟨by simp,fun j p h=>by simp at h⟩
theorem lV.snoc {α:Type} {R:α→List Value→Prop} {size:Nat} {ps:List α} {cs c:List Value} {p:α} (h:lV R size ps cs) (hp:R p c) (hc:c.length = size):lV R size (ps++[p]) (cs++c):=by
 refine ⟨by rw [List.length_append,h.1,hc,List.length_append,List.length_singleton,Nat.add_mul,Nat.one_mul],fun j q hq=>?_⟩
 rcases Nat.lt_or_ge j ps.length with hj|hj
 ·rw [List.getElem?_append_left hj] at hq
  have h1:j*size+size≤cs.length:=by rw [h.1,← Nat.succ_mul];exact Nat.mul_le_mul_right _ hj
  have h2:=h.2 j q hq
  rw [List.drop_append_of_le_length (by omega),List.take_append_of_le_length (by rw [List.length_drop];omega)]
  exact h2
 ·have hj':j = ps.length:=by
   have:=(List.getElem?_eq_some_iff.1 hq).1
   rw [List.length_append,List.length_singleton] at this
   omega
  subst hj'
  have hq':p = q:=by simpa using hq
  subst hq'
  rw [← h.1,List.drop_left,← hc,List.take_length]
  exact hp
theorem lV.Mv {α:Type} {R R':α→List Value→Prop} {size:Nat} {ps:List α} {cs:List Value} (h:lV R size ps cs) (hR:∀ p c,R p c→R' p c):lV R' size ps cs:=⟨h.1,fun j p hj=>hR _ _ (h.2 j p hj)⟩
def o9 {α:Type} (R:α→List Value→Prop) (size:Nat) (w:ao) (A:Option Addr) (n:Nat) (ps:List α):Prop :=
 ps.length = n∧n≤9223372036854775807∧(0 < n→∃ ad,A = some ad∧∀ j p,ps[j]? = some p→∃ c,c.length = size∧R p c∧∀ i u,c[i]? = some u→w.cell? (ad.add (j*size+i)) = some u)
theorem o9.aWi {α:Type} {R:α→List Value→Prop} {size:Nat} {w:ao} {A:Option Addr} {n:Nat} {ps:List α} (h:o9 R size w A n ps) (d:α) (i:Int) (h0:0≤i) (h1:i < n):
 ∃ ad c,A = some ad∧c.length = size∧R (ps.getD i.toNat d) c∧∀ j u,c[j]? = some u→w.cell? (ad.add (i.toNat*size+j)) = some u:=by
 obtain ⟨ad,e,hc⟩:=h.2.2 (by omega)
 have hl:i.toNat < ps.length:=by have:=h.1;omega
 obtain ⟨c,hs,hr,hcell⟩:=hc i.toNat _ (List.getElem?_eq_getElem hl)
 refine ⟨ad,c,e,hs,?_,hcell⟩
 rw [List.getD_eq_getElem?_getD,List.getElem?_eq_getElem hl]
 exact hr
theorem o9.Mv {α:Type} {R R':α→List Value→Prop} {size:Nat} {w w1:ao} {A:Option Addr} {n:Nat} {ps:List α} (h:o9 R size w A n ps) (hb:Below w.heap.size w w1) (hR:∀ p c,R p c→R' p c):o9 R' size w1 A n ps :=
 ⟨h.1,h.2.1,fun hn=>by
  obtain ⟨ad,e,hc⟩:=h.2.2 hn
  refine ⟨ad,e,fun j p hj=>?_⟩
  obtain ⟨c,hs,hr,hcell⟩:=hc j p hj
  exact ⟨c,hs,hR _ _ hr,fun i u hu=>Xt hb (hcell i u hu)⟩⟩
theorem Xu {α:Type} {R:α→List Value→Prop} {w:ao} {base n size:Nat} {e:TypeId} {v:Value} {ps:List α} {cs:List Value} (h:w.ownsRow base e size v n cs) (hR:lV R size ps cs) (hn:ps.length = n):
 ∃ A c,v = .slice A n c∧o9 R size w A n ps:=by
 rcases Nat.eq_zero_or_pos n with h0|h0
 ·rcases h.2 with ⟨rfl,rfl⟩|⟨g,cap,cur,rfl,_⟩
  ·exact ⟨none,0,rfl,hn,by omega,fun hp=>absurd hp (by omega)⟩
  ·exact ⟨_,cap,rfl,hn,by omega,fun hp=>absurd hp (by omega)⟩
 ·obtain ⟨g,cap,rfl,_,_⟩:=h.form h0
  have hm:n≤9223372036854775807:=by
   rcases h.2 with ⟨_,h1⟩|⟨g',cap',cur,he,_,_,h1,h2,_⟩
   ·omega
   ·simp only [maxLen] at h2
    omega
  refine ⟨_,cap,rfl,hn,hm,fun _=>⟨_,rfl,fun j p hj=>⟨(cs.drop (j*size)).take size,?_,hR.2 j p hj,fun i u hu=>?_⟩⟩⟩
  ·have hjl:=(List.getElem?_eq_some_iff.1 hj).1
   have h1:j*size+size≤cs.length:=by rw [hR.1,← Nat.succ_mul];exact Nat.mul_le_mul_right _ hjl
   rw [List.length_take,List.length_drop]
   omega
  ·refine h.cells (g:=g) rfl _ u ?_
   rw [List.getElem?_take] at hu
   split at hu
   ·rw [List.getElem?_drop] at hu
    exact hu
   ·cases hu
theorem Fq (ad:Addr) (m j:Nat) (hj:0 < j):ad.add (m+j) = ⟨(ad.add m).block,(ad.add m).off+j,none⟩:=by
 unfold Addr.add
 by_cases hm:m = 0
 ·subst hm
  simp [Nat.ne_of_gt hj]
 ·simp [hm,Nat.add_assoc]
section
variable {P:Program} {ops:Array Oper} {rest:List Oper} {o:Oper} {a:Act} {Q:Exit→Act→ao→Prop}
theorem Mw {w0 W:ao} (base:Nat) (hgd:o.guard = none) (s x:Operand) (t e:TypeId) (z:Value) (size bytes:Nat)
 (ho:o.op = .call { callee:=.builtin .append,args:=#[s,x],argTypes:=#[t,t] })
 (ht:P.underlying t = some (.slice e)) (hinfo:(P.info? e).map (fun i=>(i.zero,i.size,i.bytes)) = some (some z,size,bytes)) (hz:z.cells.size = size) (hs0:0 < size) (hb0:0 < bytes)
 (v:Value) (n:Nat) (xs ys:List Value) (hs:a.eval s = v) (hx:a.eval x = .slice (some ⟨W.heap.size,0,none⟩) 1 1) (hys:ys.length = size) (h1:∀ u ∈ ys,u.oneCell' = true)
 (HO:W.ownsRow base e size v n xs) (HB:Below base w0 W) (hbase:base≤W.heap.size) (hl:(n+1)*bytes≤140737488355328)
 (h:∀ v1 w1,w1.ownsRow base e size v1 (n+1) (xs++ys)→Below base w0 w1→W.grownBy w1 v.ownBlock→(v1.ownBlock = v.ownBlock∨∃ b,v1.ownBlock = some b∧W.heap.size≤b)→wpList P ops Q rest (a.put o.dst v1) w1):
 wpList P ops Q (o :: rest) a (W.alloc (.cells ys.toArray e)):=by
 obtain ⟨i0,hi,hzz⟩:=Option.map_eq_some_iff.1 hinfo
 simp only [Prod.mk.injEq] at hzz
 obtain ⟨hz0,hz1,hz2⟩:=hzz
 have hlen:n+1≤140737488355328:=Nat.le_trans (Nat.le_mul_of_pos_right _ hb0) hl
 refine wpList_append_own_at (W.alloc (.cells ys.toArray e)) hgd s x t ho base e i0 z size bytes ht hi hz0 hz1 hz2 hz hs0 v n xs hs (HO.alloc _) ⟨W.heap.size,0,none⟩ 1 1 ys hx (by rw [hys];simp)
  (by simpa using World.news_of_block (cs:=ys.toArray) (t:=e) (fr:=(0,0)) (heap_alloc_new W (.cells ys.toArray e))) h1 (by simp only [maxLen];omega) hl (by simp;omega) ?_
 intro v1 w1 hown hg _ hat
 refine h v1 w1 hown ((HB.alloc hbase _).grown hg (by simp;omega) (Cf HO)) (World.grownBy.trans (World.grownBy_alloc W _ _) hg) ?_
 rcases hat with hat|hat
 ·exact .inl hat
 ·exact .inr ⟨_,hat,by simp⟩
end
theorem own_ne {w:ao} {base:Nat} {e t:TypeId} {size n g:Nat} {v:Value} {xs:List Value} {cs:Array Value} (h:w.ownsRow base e size v n xs) (hg:w.heap[g]? = some (.cells cs t (0,0))) (hne:e≠t):some g≠v.ownBlock:=by
 rcases h.2 with ⟨rfl,_⟩|⟨g',cap,cur,rfl,_,hh,_⟩
 ·simp [Value.ownBlock]
 ·intro he
  have:g = g':=by simpa [Value.ownBlock] using he
  subst this
  rw [hg] at hh
  injection hh with hh
  injection hh with _ ht
  exact hne ht.symm
theorem ast {w:ao} {g:Nat} {t:TypeId} {cs:Array Value} (h:w.heap[g]? = some (.cells cs t (0,0))) (i:Nat) (u:Value):(w.setCell ⟨g,i,none⟩ u).heap[g]? = some (.cells (cs.setIfInBounds i u) t (0,0)):=by
 simp [World.setCell,Array.getElem?_modify,h]
theorem aM {w:ao} {g:Nat} {t:TypeId} {cs:Array Value} (h:w.heap[g]? = some (.cells cs t (0,0))) {p:Addr} (hp:g≠p.block) (u:Value):(w.setCell p u).heap[g]? = some (.cells cs t (0,0)):=(Below.heap_setCell w p u g hp).trans h
theorem bO {w:ao} {g:Nat} {o:Obj} (h:w.heap[g]? = some o):g < w.heap.size:=(Array.getElem?_eq_some_iff.1 h).1
theorem ae {w:ao} {g:Nat} {t:TypeId} {cs:Array Value} (h:w.heap[g]? = some (.cells cs t (0,0))) (i:Nat):w.cell? ⟨g,i,none⟩ = cs[i]?:=cell_of_row w g i cs t (0,0) h
theorem bg {w:ao} {g:Nat} {t:TypeId} {cs:Array Value} (h:w.heap[g]? = some (.cells cs t (0,0))) (i:Nat):w.frozen? ⟨g,i,none⟩ = false:=by simp [World.frozen?,h]
theorem iF {w w1:ao} {g:Nat} {o:Obj} {row:Option Nat} (h:w.heap[g]? = some o) (hg:w.grownBy w1 row) (hne:some g≠row):w1.heap[g]? = some o:=(hg.block g (bO h) hne).trans h
theorem qg {w:ao} {g g':Nat} {t t':TypeId} {cs cs':Array Value} (h:w.heap[g]? = some (.cells cs t (0,0))) (h':w.heap[g']? = some (.cells cs' t' (0,0))) (hne:t≠t'):g≠g':=by
 rintro rfl
 rw [h] at h'
 injection h' with h'
 injection h' with _ ht
 exact hne ht
theorem Vj {w:ao} {base base':Nat} {e:TypeId} {size n:Nat} {v:Value} {xs:List Value} (h:w.ownsRow base e size v n xs) (hb:base'≤base):w.ownsRow base' e size v n xs:=by
 obtain ⟨h1,h2⟩:=h
 refine ⟨h1,?_⟩
 rcases h2 with h2|⟨g,cap,cur,rfl,hg,r⟩
 ·exact .inl h2
 ·exact .inr ⟨g,cap,cur,rfl,Nat.le_trans hb hg,r⟩
section
variable {α:Type} {enc:α→Value} {d:α}
def encs (enc:α→Value) (xs:List α):List Value:=xs.map enc
def GD (d:α) (xs:List α) (i:Int):α:=xs.getD i.toNat d
def M9 (enc:α→Value) (d:α) (w:ao) (A:Option Addr) (n:Nat) (xs:List α):Prop :=
 xs.length = n∧n≤9223372036854775807∧(0 < n→∃ ad,A = some ad∧∀ j,j < n→w.cell? (ad.add j) = some (enc (xs.getD j d)))
theorem M9.at_ {w:ao} {A:Option Addr} {n:Nat} {xs:List α} (h:M9 enc d w A n xs) (i:Int) (h0:0≤i) (h1:i < n):∃ ad,A = some ad∧w.cell? (ad.add i.toNat) = some (enc (GD d xs i)):=by
 obtain ⟨ad,e,hc⟩:=h.2.2 (by omega)
 exact ⟨ad,e,hc _ (by omega)⟩
end
theorem aa {w:ao} {g:Nat} {o:Obj} (h:w.heap[g]? = some o) (o':Obj):(w.alloc o').heap[g]? = some o:=(Below.heap_alloc w o' g (bO h)).trans h
theorem ag {w:ao} {g:Nat} {o:Obj} (h:w.heap[g]? = some o):w.drew.heap[g]? = some o:=h
theorem au {w:ao} {g:Nat} {o:Obj} (h:w.heap[g]? = some o) (n:Nat):(w.drewN n).heap[g]? = some o:=h
theorem ah {w w1:ao} {g:Nat} {o:Obj} (h:w.heap[g]? = some o) (hb:Below w.heap.size w w1):w1.heap[g]? = some o:=(hb.block g (bO h)).trans h
theorem eB (w:ao) (o:Obj):(w.alloc o).heap[w.heap.size]? = some o:=heap_alloc_new w o
section
variable {P:Program}
theorem nN {fn:Func} {p u:Tmp} {ty:TypeId} (h:fn.results = #[.cell p ty,.tmp u]) (tmps:Array Value) (w:ao) (g:Nat) (t:TypeId) (cs:Array Value) (fr:Nat × Nat) (d:TypeDesc)
 (hp:tmps.getD p undef = .pointer (some ⟨g,0,none⟩)) (hg:w.heap[g]? = some (.cells cs t fr))
 (hu:P.underlying ty = some d) (hd:(match d with|.struct _|.array _ _=>true|_=>false) = true) (hi:(P.info? ty).map (·.size) = some cs.size):
 (results fn tmps).run P w = .ok (.tuple #[.agg cs,tmps.getD u undef]) w:=by
 have hp':tmps[p]?.getD undef = .pointer (some ⟨g,0,none⟩):=by simpa using hp
 simp [results,h,hp',asAddr,run_loadVar_row w g t ty cs fr d hg hu hd hi]
theorem af5 {fn:Func} {p p':Tmp} {ty ty':TypeId} (h:fn.results = #[.cell p ty,.cell p' ty']) (tmps:Array Value) (w:ao) (g g':Nat) (t t':TypeId) (cs cs':Array Value) (fr fr':Nat × Nat) (d d':TypeDesc)
 (hp:tmps.getD p undef = .pointer (some ⟨g,0,none⟩)) (hg:w.heap[g]? = some (.cells cs t fr))
 (hu:P.underlying ty = some d) (hd:(match d with|.struct _|.array _ _=>true|_=>false) = true) (hi:(P.info? ty).map (·.size) = some cs.size)
 (hp':tmps.getD p' undef = .pointer (some ⟨g',0,none⟩)) (hg':w.heap[g']? = some (.cells cs' t' fr'))
 (hu':P.underlying ty' = some d') (hd':(match d' with|.struct _|.array _ _=>true|_=>false) = true) (hi':(P.info? ty').map (·.size) = some cs'.size):
 (results fn tmps).run P w = .ok (.tuple #[.agg cs,.agg cs']) w:=by
 have h1:tmps[p]?.getD undef = .pointer (some ⟨g,0,none⟩):=by simpa using hp
 have h2:tmps[p']?.getD undef = .pointer (some ⟨g',0,none⟩):=by simpa using hp'
 simp [results,h,h1,h2,asAddr,run_loadVar_row w g t ty cs fr d hg hu hd hi,run_loadVar_row w g' t' ty' cs' fr' d' hg' hu' hd' hi']
end
theorem aBE {w:ao} {base n m c size:Nat} {e:TypeId} {A:Option Addr} {xs:List Value} (h:w.ownsRow base e size (.slice A m c) n xs):m≤c:=by
 rcases h.2 with ⟨he,_⟩|⟨g,cap,cur,he,_,_,hnc,_⟩
 ·injection he with _ h2 h3
  omega
 ·injection he with _ h2 h3
  omega
def yl {α:Type} (R:α→List Value→Prop) (e:TypeId) (size:Nat) (w:ao) (base:Nat) (v:Value) (ps:List α):Prop :=
 ∃ inner,w.ownsRow base e size v ps.length inner∧lV R size ps inner
section
variable {α:Type} {R R':α→List Value→Prop} {e:TypeId} {size:Nat} {w w1:ao} {base:Nat} {v:Value} {ps:List α}
theorem yl.none_ (R:α→List Value→Prop) (e:TypeId) (size:Nat) (w:ao) (base:Nat):yl R e size w base (.slice none 0 0) []:=⟨[],ass _ _ _ _,lV.none _ _⟩
theorem yl.Mv (h:yl R e size w base v ps) (hR:∀ p c,R p c→R' p c):yl R' e size w base v ps:=by
 obtain ⟨inner,ho,hr⟩:=h
 exact ⟨inner,ho,hr.Mv hR⟩
theorem yl.reads (h:yl R e size w base v ps):∃ A c,v = .slice A ps.length c∧ps.length≤c∧o9 R size w A ps.length ps:=by
 obtain ⟨inner,ho,hr⟩:=h
 obtain ⟨A,c,rfl,hrow⟩:=Xu ho hr rfl
 exact ⟨A,c,rfl,aBE ho,hrow⟩
theorem yl.an5 (h:yl R e size w base v ps) {g:Nat} {t:TypeId} {cells:Array Value} (hb:w.heap[g]? = some (.cells cells t (0,0))) (ht:e≠t):some g≠v.ownBlock:=by
 obtain ⟨inner,ho,hr⟩:=h
 exact own_ne ho hb ht
end
theorem o9.aBF {α:Type} {R:α→List Value→Prop} {size:Nat} {w:ao} {ad:Addr} {n:Nat} {ps:List α} (h:o9 R size w (some ad) n ps):
 ∃ inner,lV R size ps inner∧∀ j u,inner[j]? = some u→w.cell? (ad.add j) = some u:=by
 have key:∀ m,m≤ps.length→∃ inner,lV R size (ps.take m) inner∧∀ j u,inner[j]? = some u→w.cell? (ad.add j) = some u:=by
  intro m
  induction m with
  |zero=>exact fun _=>⟨[],lV.none _ _,fun j u hu=>by simp at hu⟩
  |succ m ih =>
   intro hm
   obtain ⟨inner,hr,hc⟩:=ih (by omega)
   obtain ⟨ad',he,hcell⟩:=h.2.2 (by have:=h.1;omega)
   injection he with he
   subst he
   obtain ⟨c,hcl,hp,hcc⟩:=hcell m _ (List.getElem?_eq_getElem (show m < ps.length by omega))
   refine ⟨inner++c,?_,fun j u hu=>?_⟩
   ·rw [List.take_succ_eq_append_getElem (show m < ps.length by omega)]
    exact hr.snoc hp hcl
   ·have hil:inner.length = m*size:=by rw [hr.1,List.length_take,Nat.min_eq_left (by omega)]
    rcases Nat.lt_or_ge j inner.length with hj|hj
    ·rw [List.getElem?_append_left hj] at hu
     exact hc j u hu
    ·rw [List.getElem?_append_right hj] at hu
     have:=hcc (j - inner.length) u hu
     rwa [hil,Nat.add_sub_cancel' (by omega)] at this
 obtain ⟨inner,hr,hc⟩:=key ps.length (Nat.le_refl _)
 rw [List.take_length] at hr
 exact ⟨inner,hr,hc⟩
structure Kd (α:Type) where
 sz:Nat
 E:List Nat
 K:ao→α→List Value→Prop
 M:ao→Nat→(Nat→Prop)→α→List Value→Prop
 zY:∀ {w x cs},K w x cs→cs.length = sz
 zZ:∀ {w x cs},K w x cs→∀ u ∈ cs,u.oneCell' = true
 p8:∀ {w w1:ao} {x cs},Below w.heap.size w w1→K w x cs→K w1 x cs
 qh:∀ {w base ok x cs},M w base ok x cs→K w x cs
 mI:∀ {w base ok ok' x cs},(∀ k,ok k→ok' k)→M w base ok x cs→M w base ok' x cs
 oh:∀ {w:ao} {base ok x cs},M w base ok x cs→M w base (fun k=>ok k∧base≤k∧k < w.heap.size∧∃ q,q ∈ E∧∃ cells,w.heap[k]? = some (.cells cells q (0,0))) x cs
 qM:∀ {w w1:ao} {base ok x cs},(∀ k,ok k→w1.heap[k]? = w.heap[k]?)→M w base ok x cs→M w1 base ok x cs
 p9:∀ {w base base' ok x cs},base'≤base→M w base ok x cs→M w base' ok x cs
theorem acT {w w1:ao} {base:Nat} {e:TypeId} {size n:Nat} {v:Value} {xs:List Value} (h:w.ownsRow base e size v n xs) (hm:∀ k,v.ownBlock = some k→w1.heap[k]? = w.heap[k]?):w1.ownsRow base e size v n xs:=by
 obtain ⟨h1,h2⟩:=h
 refine ⟨h1,?_⟩
 rcases h2 with h2|⟨g,cap,cur,rfl,hg,hh,r⟩
 ·exact .inl h2
 ·exact .inr ⟨g,cap,cur,rfl,hg,(hm g (by simp [Value.ownBlock])).trans hh,r⟩
theorem BV {w:ao} {base:Nat} {e:TypeId} {size n:Nat} {v:Value} {xs:List Value} (h:w.ownsRow base e size v n xs) (k:Nat) (hk:v.ownBlock = some k):∃ cells,w.heap[k]? = some (.cells cells e (0,0)):=by
 rcases h.2 with ⟨rfl,_⟩|⟨g,cap,cur,rfl,hg,hh,r⟩
 ·simp [Value.ownBlock] at hk
 ·have:g = k:=by simpa [Value.ownBlock] using hk
  subst this
  exact ⟨cur,hh⟩
namespace Kd
def C {α:Type} (d:Kd α) (w:ao) (A:Option Addr) (n:Nat) (xs:List α):Prop:=o9 (d.K w) d.sz w A n xs
def R {α:Type} (d:Kd α) (e:Nat) (w:ao) (base:Nat) (ok:Nat→Prop) (v:Value) (xs:List α):Prop :=
 (∀ k,v.ownBlock = some k→ok k)∧yl (d.M w base (fun k=>ok k∧some k≠v.ownBlock)) e d.sz w base v xs
section
variable {α:Type} {d:Kd α} {e:Nat} {w w1:ao} {base:Nat} {ok ok':Nat→Prop} {v:Value} {xs:List α}
theorem bz {A:Option Addr} {n:Nat} (h:d.C w A n xs) (hb:Below w.heap.size w w1):d.C w1 A n xs:=o9.Mv h hb (fun _ _ hp=>d.p8 hb hp)
theorem Na (d:Kd α) (e:Nat) (w:ao) (base:Nat) (ok:Nat→Prop):d.R e w base ok (.slice none 0 0) []:=⟨fun k hk=>by simp [Value.ownBlock] at hk,yl.none_ _ _ _ _ _⟩
theorem jX (h:d.R e w base ok v xs) (hok:∀ k,ok k→ok' k):d.R e w base ok' v xs:=⟨fun k hk=>hok k (h.1 k hk),h.2.Mv (fun _ _ hp=>d.mI (fun k hk=>⟨hok k hk.1,hk.2⟩) hp)⟩
theorem uM (h:d.R e w base ok v xs):d.R e w base (fun k=>ok k∧base≤k∧k < w.heap.size∧∃ q,q ∈ e :: d.E∧∃ cells,w.heap[k]? = some (.cells cells q (0,0))) v xs:=by
 obtain ⟨h0,inner,ho,hr⟩:=h
 refine ⟨fun k hk=>?_,inner,ho,hr.Mv (fun _ _ hp=>d.mI (fun k hk=>?_) (d.oh hp))⟩
 ·obtain ⟨cells,hc⟩:=BV ho k hk
  exact ⟨h0 k hk,Cf ho k hk,an4 ho k hk,e,List.mem_cons_self,cells,hc⟩
 ·obtain ⟨⟨h1,h2⟩,h3,h4,q,hq,hc⟩:=hk
  exact ⟨⟨h1,h3,h4,q,List.mem_cons_of_mem _ hq,hc⟩,h2⟩
theorem PU (h:d.R e w base ok v xs) (hm:∀ k,ok k→w1.heap[k]? = w.heap[k]?):d.R e w1 base ok v xs:=by
 obtain ⟨h0,inner,ho,hr⟩:=h
 exact ⟨h0,inner,acT ho (fun k hk=>hm k (h0 k hk)),hr.Mv (fun _ _ hp=>d.qM (fun k hk=>hm k hk.1) hp)⟩
theorem kv {base':Nat} (h:d.R e w base ok v xs) (hb:base'≤base):d.R e w base' ok v xs:=by
 obtain ⟨h0,inner,ho,hr⟩:=h
 exact ⟨h0,inner,Vj ho hb,hr.Mv (fun _ _ hp=>d.p9 hb hp)⟩
theorem an6 (h:d.R e w base ok v xs) (hm:∀ k,ok k→k < w.heap.size→w1.heap[k]? = w.heap[k]?):d.R e w1 base ok v xs :=
 jX (PU (uM h) (fun k hk=>hm k hk.1 hk.2.2.1)) (fun _ hk=>hk.1)
theorem aBG {x:α} {cs:List Value} (h:d.M w base ok x cs) (hm:∀ k,ok k→k < w.heap.size→w1.heap[k]? = w.heap[k]?):d.M w1 base ok x cs :=
 d.mI (fun _ hk=>hk.1) (d.qM (fun k hk=>hm k hk.1 hk.2.2.1) (d.oh h))
theorem lZ (h:d.R e w base ok v xs) (hb:Below w.heap.size w w1):d.R e w1 base ok v xs:=an6 h (fun k _ hk=>hb.block k hk)
theorem asu {x:α} {cs:List Value} (h:d.M w base ok x cs) (hb:Below w.heap.size w w1):d.M w1 base ok x cs:=aBG h (fun k _ hk=>hb.block k hk)
theorem fu (h:d.R e w base ok v xs) {p:Addr} (hok:∀ k,ok k→k≠p.block) (u:Value):d.R e (w.setCell p u) base ok v xs:=an6 h (fun k ho _=>Below.heap_setCell w p u k (hok k ho))
theorem sO (h:d.R e w base ok v xs) {g t:Nat} {cells:Array Value} (hb:w.heap[g]? = some (.cells cells t (0,0))) (ht:∀ q,q ∈ e :: d.E→q≠t):d.R e w base (fun k=>ok k∧k≠g) v xs :=
 jX (uM h) (fun k hk=>⟨hk.1,by
  obtain ⟨_,_,_,q,hq,cells',hc⟩:=hk
  rintro rfl
  rw [hc] at hb
  injection hb with hb
  injection hb with _ hb
  exact ht q hq hb⟩)
theorem Y9 (h:d.R e w base ok v xs):∃ A c,v = .slice A xs.length c∧xs.length≤c∧d.C w A xs.length xs:=by
 obtain ⟨A,c,he,hl,hr⟩:=yl.reads h.2
 exact ⟨A,c,he,hl,hr.Mv (Below.refl _ _) (fun _ _ hp=>d.qh hp)⟩
theorem lM (h:d.R e w base ok v xs):∃ A c,v = .slice A xs.length c:=by
 obtain ⟨A,c,he,_⟩:=Y9 h
 exact ⟨A,c,he⟩
theorem an7 (h:d.R e w base ok v xs):∃ inner,w.ownsRow base e d.sz v xs.length inner:=by
 obtain ⟨_,inner,ho,_⟩:=h
 exact ⟨inner,ho⟩
theorem af6 (h:d.R e w base ok v xs) {g t:Nat} {cells:Array Value} (hb:w.heap[g]? = some (.cells cells t (0,0))) (ht:e≠t):some g≠v.ownBlock:=yl.an5 h.2 hb ht
end
def scalar {α:Type} (enc:α→Value) (h1:∀ x,(enc x).oneCell' = true):Kd α where
 sz:=1
 E:=[]
 K:=fun _ x cs=>cs = [enc x]
 M:=fun _ _ _ x cs=>cs = [enc x]
 zY:=fun h=>by rw [h];rfl
 zZ:=fun h u hu=>by
  rw [h] at hu
  rw [List.mem_singleton.1 hu]
  exact h1 _
 p8:=fun _ h=>h
 qh:=fun h=>h
 mI:=fun _ h=>h
 oh:=fun h=>h
 qM:=fun _ h=>h
 p9:=fun _ h=>h
def int (k:IntKind):Kd Int:=scalar (Value.int k) (fun _=>rfl)
def bool:Kd Bool:=scalar Value.bool (fun _=>rfl)
def slice {α:Type} (e:Nat) (d:Kd α):Kd (List α) where
 sz:=1
 E:=e :: d.E
 K:=fun w xs cs=>∃ A c,cs = [.slice A xs.length c]∧xs.length≤c∧d.C w A xs.length xs
 M:=fun w base ok xs cs=>∃ v,cs = [v]∧d.R e w base ok v xs
 zY:=by
  rintro w x cs ⟨A,c,rfl,_⟩
  rfl
 zZ:=by
  rintro w x cs ⟨A,c,rfl,_⟩ u hu
  rw [List.mem_singleton.1 hu]
  rfl
 p8:=by
  rintro w w1 x cs hb ⟨A,c,rfl,hl,hr⟩
  exact ⟨A,c,rfl,hl,bz hr hb⟩
 qh:=by
  rintro w base ok x cs ⟨v,rfl,h⟩
  obtain ⟨A,c,rfl,hl,hr⟩:=Y9 h
  exact ⟨A,c,rfl,hl,hr⟩
 mI:=by
  rintro w base ok ok' x cs hok ⟨v,rfl,h⟩
  exact ⟨v,rfl,jX h hok⟩
 oh:=by
  rintro w base ok x cs ⟨v,rfl,h⟩
  exact ⟨v,rfl,uM h⟩
 qM:=by
  rintro w w1 base ok x cs hm ⟨v,rfl,h⟩
  exact ⟨v,rfl,PU h hm⟩
 p9:=by
  rintro w base base' ok x cs hb ⟨v,rfl,h⟩
  exact ⟨v,rfl,kv h hb⟩
def pair {α β:Type} (a:Kd α) (b:Kd β):Kd (α × β) where
 sz:=a.sz+b.sz
 E:=a.E++b.E
 K:=fun w x cs=>∃ c0 c1,cs = c0++c1∧a.K w x.1 c0∧b.K w x.2 c1
 M:=fun w base ok x cs=>∃ c0 c1,cs = c0++c1∧a.M w base ok x.1 c0∧b.M w base ok x.2 c1
 zY:=by
  rintro w x cs ⟨c0,c1,rfl,h0,h1⟩
  rw [List.length_append,a.zY h0,b.zY h1]
 zZ:=by
  rintro w x cs ⟨c0,c1,rfl,h0,h1⟩ u hu
  rcases List.mem_append.1 hu with hu|hu
  ·exact a.zZ h0 u hu
  ·exact b.zZ h1 u hu
 p8:=by
  rintro w w1 x cs hb ⟨c0,c1,rfl,h0,h1⟩
  exact ⟨c0,c1,rfl,a.p8 hb h0,b.p8 hb h1⟩
 qh:=by
  rintro w base ok x cs ⟨c0,c1,rfl,h0,h1⟩
  exact ⟨c0,c1,rfl,a.qh h0,b.qh h1⟩
 mI:=by
  rintro w base ok ok' x cs hok ⟨c0,c1,rfl,h0,h1⟩
  exact ⟨c0,c1,rfl,a.mI hok h0,b.mI hok h1⟩
 oh:=by
  rintro w base ok x cs ⟨c0,c1,rfl,h0,h1⟩
  refine ⟨c0,c1,rfl,a.mI ?_ (a.oh h0),b.mI ?_ (b.oh h1)⟩
  ·rintro k ⟨h2,h3,h4,q,hq,hc⟩
   exact ⟨h2,h3,h4,q,List.mem_append_left _ hq,hc⟩
  ·rintro k ⟨h2,h3,h4,q,hq,hc⟩
   exact ⟨h2,h3,h4,q,List.mem_append_right _ hq,hc⟩
 qM:=by
  rintro w w1 base ok x cs hm ⟨c0,c1,rfl,h0,h1⟩
  exact ⟨c0,c1,rfl,a.qM hm h0,b.qM hm h1⟩
 p9:=by
  rintro w base base' ok x cs hb ⟨c0,c1,rfl,h0,h1⟩
  exact ⟨c0,c1,rfl,a.p9 hb h0,b.p9 hb h1⟩
def iso {α β:Type} (d:Kd α) (f:β→α):Kd β where
 sz:=d.sz
 E:=d.E
 K:=fun w x cs=>d.K w (f x) cs
 M:=fun w base ok x cs=>d.M w base ok (f x) cs
 zY:=d.zY
 zZ:=d.zZ
 p8:=d.p8
 qh:=d.qh
 mI:=d.mI
 oh:=d.oh
 qM:=d.qM
 p9:=d.p9
def bot {α:Type} (sz:Nat) (E:List Nat):Kd α where
 sz:=sz
 E:=E
 K:=fun _ _ _=>False
 M:=fun _ _ _ _ _=>False
 zY:=fun h=>h.elim
 zZ:=fun h=>h.elim
 p8:=fun _ h=>h
 qh:=fun h=>h
 mI:=fun _ h=>h
 oh:=fun h=>h
 qM:=fun _ h=>h
 p9:=fun _ h=>h
def upto {α:Type} (F:Kd α→Kd α) (sz:Nat) (E:List Nat):Nat→Kd α
 |0=>bot sz E
 |n+1=>F (upto F sz E n)
theorem acU {α:Type} {d:Kd α} {w:ao} {A:Option Addr} {n:Nat} {xs:List α} (h:d.C w A n xs) (z:α) (i:Int) (h0:0≤i) (h1:i < n):
 ∃ ad c,A = some ad∧c.length = d.sz∧d.K w (xs.getD i.toNat z) c∧∀ j u,c[j]? = some u→w.cell? (ad.add (i.toNat*d.sz+j)) = some u:=o9.aWi h z i h0 h1
theorem af7 {α:Type} {d:Kd α} {e base:Nat} {ok okp:Nat→Prop} {W w1:ao} {v v1:Value} {xs:List α} {p:α} {inner cs:List Value} (h0:∀ k,v.ownBlock = some k→ok k) (hr:lV (d.M W base (fun k=>ok k∧some k≠v.ownBlock)) d.sz xs inner) (hp:d.M W base okp p cs) (af8:∀ k,okp k→ok k∧some k≠v.ownBlock) (hfresh:∀ k,W.heap.size≤k→ok k)
 (hown:w1.ownsRow base e d.sz v1 (xs.length+1) (inner++cs)) (hg:W.grownBy w1 v.ownBlock) (hat:v1.ownBlock = v.ownBlock∨∃ b,v1.ownBlock = some b∧W.heap.size≤b):d.R e w1 base ok v1 (xs++[p]):=by
 have hne:∀ k,some k≠v.ownBlock→k < W.heap.size→some k≠v1.ownBlock:=by
  intro k hk hlt
  rcases hat with hat|⟨b,hb,hle⟩
  ·rw [hat];exact hk
  ·rw [hb]
   intro he
   injection he with he
   omega
 have step:∀ {q:α} {c:List Value} {o:Nat→Prop},d.M W base o q c→(∀ k,o k→ok k∧some k≠v.ownBlock)→d.M w1 base (fun k=>ok k∧some k≠v1.ownBlock) q c:=by
  intro q c o hq ho
  have h1:=d.qM (w1:=w1) (fun k hk=>hg.block k hk.2.2.1 (ho k hk.1).2) (d.oh hq)
  exact d.mI (fun k hk=>⟨(ho k hk.1).1,hne k (ho k hk.1).2 hk.2.2.1⟩) h1
 refine ⟨fun k hk=>?_,inner++cs,by rw [List.length_append,List.length_singleton];exact hown,?_⟩
 ·rcases hat with hat|⟨b,hb,hle⟩
  ·exact h0 k (hat ▸ hk)
  ·rw [hb] at hk
   injection hk with hk
   exact hfresh k (by omega)
 ·exact (hr.Mv (fun _ _ hq=>step hq (fun _ hk=>hk))).snoc (step hp af8) (d.zY (d.qh hp))
section
variable {P:Program} {ops:Array Oper} {rest:List Oper} {o:Oper} {a:Act} {Q:Exit→Act→ao→Prop} {α:Type}
theorem Cg (d:Kd α) {w0 W:ao} (base:Nat) (hgd:o.guard = none) (s x:Operand) (t e:TypeId) (z:Value) (bytes:Nat)
 (ho:o.op = .call { callee:=.builtin .append,args:=#[s,x],argTypes:=#[t,t] })
 (ht:P.underlying t = some (.slice e)) (hinfo:(P.info? e).map (fun i=>(i.zero,i.size,i.bytes)) = some (some z,d.sz,bytes)) (hz:z.cells.size = d.sz) (hs0:0 < d.sz) (hb0:0 < bytes)
 (v:Value) (xs:List α) (p:α) (cs:List Value) (ok okp:Nat→Prop) (hs:a.eval s = v) (hx:a.eval x = .slice (some ⟨W.heap.size,0,none⟩) 1 1) (hp:d.M W base okp p cs) (af8:∀ k,okp k→ok k∧some k≠v.ownBlock) (hfresh:∀ k,W.heap.size≤k→ok k)
 (HO:d.R e W base ok v xs) (HB:Below base w0 W) (hbase:base≤W.heap.size) (hl:(xs.length+1)*bytes≤140737488355328)
 (h:∀ v1 w1,d.R e w1 base ok v1 (xs++[p])→Below base w0 w1→W.grownBy w1 v.ownBlock→(v1.ownBlock = v.ownBlock∨∃ b,v1.ownBlock = some b∧W.heap.size≤b)→wpList P ops Q rest (a.put o.dst v1) w1):
 wpList P ops Q (o :: rest) a (W.alloc (.cells cs.toArray e)):=by
 obtain ⟨h0,inner,hown,hr⟩:=HO
 refine Mw base hgd s x t e z d.sz bytes ho ht hinfo hz hs0 hb0 v xs.length inner cs hs hx (d.zY (d.qh hp)) (d.zZ (d.qh hp)) hown HB hbase hl ?_
 intro v1 w1 hown1 hb1 hg1 aEW
 exact h v1 w1 (af7 h0 hr hp af8 hfresh hown1 hg1 aEW) hb1 hg1 aEW
end
theorem Vk {α:Type} {enc:α→Value} {d:α} {h1:∀ x,(enc x).oneCell' = true} {w:ao} {A:Option Addr} {n:Nat} {xs:List α} (h:(scalar enc h1).C w A n xs):M9 enc d w A n xs:=by
 refine ⟨h.1,h.2.1,fun hn=>?_⟩
 obtain ⟨ad,e,hc⟩:=h.2.2 hn
 refine ⟨ad,e,fun j hj=>?_⟩
 have hl:j < xs.length:=by have:=h.1;omega
 obtain ⟨c,_,hK,hcell⟩:=hc j _ (List.getElem?_eq_getElem hl)
 have hK':c = [enc xs[j]]:=hK
 subst hK'
 have:=hcell 0 _ rfl
 simpa [scalar,List.getD_eq_getElem?_getD,List.getElem?_eq_getElem hl] using this
end Kd
namespace Kd
end Kd
namespace Kd
theorem Si {α:Type} {d:Kd α} {e base:Nat} {ok:Nat→Prop} {W w1:ao} {u v v1:Value} {xs:List α} (h:d.R e W base (fun k=>ok k∧some k≠v.ownBlock) u xs) (hg:W.grownBy w1 v.ownBlock) (hat:v1.ownBlock = v.ownBlock∨∃ b,v1.ownBlock = some b∧W.heap.size≤b):d.R e w1 base (fun k=>ok k∧some k≠v1.ownBlock) u xs:=by
 refine jX (PU (uM h) (fun k hk=>hg.block k hk.2.2.1 hk.1.2)) (fun k hk=>⟨hk.1.1,?_⟩)
 rcases hat with hat|⟨b,hb,hle⟩
 ·rw [hat];exact hk.1.2
 ·rw [hb]
  intro he
  injection he with he
  have:=hk.2.2.1
  omega
theorem aEX {α:Type} {d:Kd α} {e base:Nat} {ok:Nat→Prop} {w:ao} {v:Value} {xs:List α} (h:d.R e w base ok v xs):(slice e d).M w base ok xs [v]:=⟨v,rfl,h⟩
end Kd
namespace Kd
section
variable {α β:Type} {d:Kd α} {d':Kd β} {e e':Nat} {w w1 W:ao} {base b b':Nat} {ok ok' okv oku:Nat→Prop} {v u:Value} {xs:List α} {ys:List β}
theorem jP (h:d.R e w base ok v xs):d.R e w.drew base ok v xs:=lZ h (af3 (Below.refl _ _))
theorem jY (h:d.R e w base ok v xs) (m:Nat):d.R e (w.drewN m) base ok v xs:=lZ h (ng (Below.refl _ _) m)
theorem fK {A:Option Addr} {n c:Nat} (h:d.R e w base ok (.slice A n c) xs):n = xs.length∧n≤c∧d.C w A xs.length xs:=by
 obtain ⟨A',c',he,hl,hr⟩:=Y9 h
 injection he with h1 h2 h3
 subst h1
 exact ⟨h2,by omega,hr⟩
theorem af9 (h:d.R e w base ok v xs):∀ k,v.ownBlock = some k→k < w.heap.size:=by
 obtain ⟨inner,ho⟩:=an7 h
 exact an4 ho
theorem PV (h:d.R e w base ok v xs):∀ k,v.ownBlock = some k→base≤k:=by
 obtain ⟨inner,ho⟩:=an7 h
 exact Cf ho
theorem Za (h:d.R e w base ok v xs) {g:Nat} (hok:∀ k,ok k→k≠g):some g≠v.ownBlock:=fun e=>hok g (h.1 g e.symm) rfl
end
section
variable {w W:ao} {A:Option Addr} {n:Nat}
theorem PW {k:IntKind} {xs:List Int} (h:(Kd.int k).C w A n xs) (i:Int) (h0:0≤i) (h1:i < n):∃ ad,A = some ad∧w.cell? (ad.add i.toNat) = some (.int k (rd xs i)) :=
 M9.at_ (Vk (enc:=Value.int k) (d:=(0:Int)) (h1:=fun _=>rfl) h) i h0 h1
theorem Sj {xs:List Bool} (h:Kd.bool.C w A n xs) (i:Int) (h0:0≤i) (h1:i < n):∃ ad,A = some ad∧w.cell? (ad.add i.toNat) = some (.bool (GD false xs i)) :=
 M9.at_ (Vk (enc:=Value.bool) (d:=false) (h1:=fun _=>rfl) h) i h0 h1
variable {α:Type} {enc:α→Value} {h1:∀ x,(enc x).oneCell' = true} {e base g cap:Nat} {ok:Nat→Prop} {xs:List α}
end
section
variable {P:Program} {ops:Array Oper} {rest:List Oper} {o:Oper} {a:Act} {Q:Exit→Act→ao→Prop}
theorem Yc {W w1:ao} {v:Value} (hgd:o.guard = none) (hrun:(execOp a.eval o).run P W = .ok (.value v) w1) (h:wpList P ops Q rest (a.put o.dst v) w1):wpList P ops Q (o :: rest) a W:=by
 refine wpList_plain hgd fun K hK=>?_
 unfold Oper.wp
 rw [hrun]
 exact hK _ _ h
variable {α:Type}
theorem z8 (d:Kd α) {w0 W:ao} (base e:Nat) (hgd:o.guard = none) {N:Tmp} (_hd:o.dst = some N) {xs:List α} {inner:List Value} {ok okp:Nat→Prop}
 (hrun:(execOp a.eval o).run P W = .ok (.value (.slice (some ⟨W.heap.size,0,none⟩) xs.length xs.length)) (W.alloc (.cells inner.toArray e)))
 (hrep:lV (d.M W base okp) d.sz xs inner) (hok:∀ k,okp k→ok k) (hfresh:ok W.heap.size) (HB:Below base w0 W) (hbase:base≤W.heap.size) (hm:xs.length≤9223372036854775807)
 (h:∀ v1 w1,d.R e w1 base ok v1 xs→Below base w0 w1→W.grownBy w1 none→(∃ b,v1.ownBlock = some b∧W.heap.size≤b)→wpList P ops Q rest (a.put o.dst v1) w1):wpList P ops Q (o :: rest) a W:=by
 refine Yc hgd hrun (h _ _ ⟨fun k hk=>?_,inner,?_,?_⟩ (HB.alloc hbase _) (World.grownBy_alloc W _ none) ⟨W.heap.size,by simp [Value.ownBlock],Nat.le_refl _⟩)
 ·have:W.heap.size = k:=by simpa [Value.ownBlock] using hk
  subst this
  exact hfresh
 ·have h2:=World.ownsRow_lit (base:=base) (e:=e) (size:=d.sz) W inner.toArray xs.length hbase (by simpa [maxLen] using hm) (by simpa using hrep.1)
  simpa using h2
 ·refine hrep.Mv (fun p c hp=>d.mI (fun k hk=>⟨hok k hk.1,fun he=>?_⟩) (asu (d.oh hp) (aH (Below.refl _ _) _)))
  have h3:k = W.heap.size:=by simpa [Value.ownBlock] using he
  have:=hk.2.2.1
  omega
theorem al3 {α:Type} {R:α→List Value→Prop} {z:Value} {size:Nat} {z0:α} (hz:z.cells.size = size) (hs:0 < size) (h0:R z0 z.cells.toList) (m:Nat):lV R size (List.replicate m z0) (madeCells z.cells (m*size)).toList:=by
 refine ⟨by simp [size_madeCells],fun j p hj=>?_⟩
 obtain ⟨hjl,hp⟩:=List.getElem?_eq_some_iff.1 hj
 have hjm:j < m:=by simpa using hjl
 have hp':z0 = p:=by simpa using hp
 subst hp'
 have hle:j*size+size≤m*size:=by rw [← Nat.succ_mul];exact Nat.mul_le_mul_right _ hjm
 have:((madeCells z.cells (m*size)).toList.drop (j*size)).take size = z.cells.toList:=by
  apply List.ext_getElem
  ·simp [size_madeCells,hz]
   omega
  ·intro i h1 h2
   have hi:i < size:=by rw [Array.length_toList,hz] at h2;exact h2
   have hmod:(j*size+i) % size = i:=by
    rw [Nat.mul_comm,Nat.mul_add_mod]
    exact Nat.mod_eq_of_lt hi
   simp [madeCells,hz,hmod]
   rw [getElem!_pos z.cells i (by omega)]
 rw [this]
 exact h0
theorem aBH (d:Kd α) {w0 W:ao} (base e:Nat) (hgd:o.guard = none) {N:Tmp} (hd:o.dst = some N) (t:TypeId) (x y:Operand) (ho:o.op = .makeSlice t x y) (n:Int) (hx:a.eval x = Z ab n) (hy:a.eval y = Z ab n)
 (ht:P.underlying t = some (.slice e)) (z:Value) (bytes:Nat) (hinfo:(P.info? e).map (fun i=>(i.zero,i.size,i.bytes)) = some (some z,d.sz,bytes)) (hz:z.cells.size = d.sz) (hs0:0 < d.sz) (hb0:0 < bytes)
 (z0:α) {ok okp:Nat→Prop} (hzero:d.M W base okp z0 z.cells.toList) (hok:∀ k,okp k→ok k) (hfresh:ok W.heap.size) (h0:0≤n) (hl:n.toNat*bytes≤281474976710656) (HB:Below base w0 W) (hbase:base≤W.heap.size)
 (h:∀ v1 w1,d.R e w1 base ok v1 (List.replicate n.toNat z0)→Below base w0 w1→W.grownBy w1 none→(∃ b,v1.ownBlock = some b∧W.heap.size≤b)→wpList P ops Q rest (a.put o.dst v1) w1):wpList P ops Q (o :: rest) a W:=by
 obtain ⟨m,rfl⟩:=Int.eq_ofNat_of_zero_le h0
 simp only [Int.toNat_natCast] at hl h
 obtain ⟨i0,hi,hzz⟩:=Option.map_eq_some_iff.1 hinfo
 simp only [Prod.mk.injEq] at hzz
 obtain ⟨hz0,hz1,hz2⟩:=hzz
 have hm:m≤281474976710656:=Nat.le_trans (Nat.le_mul_of_pos_right _ hb0) hl
 have hr:=run_make (P:=P) W t e i0 z ht hi hz0 .i64 .i64 (m:Int) (m:Int) (by omega) (by omega)
  (by
   have h3:((i0.bytes*m:Nat):Int)≤281474976710656:=by rw [hz2,Nat.mul_comm];omega
   rwa [Int.natCast_mul] at h3) (by omega)
 simp only [Int.toNat_natCast] at hr
 rw [hz1] at hr
 refine z8 d base e hgd hd (xs:=List.replicate m z0) (inner:=(madeCells z.cells (m*d.sz)).toList) (okp:=okp) (ok:=ok) ?_ (al3 hz hs0 hzero m) hok hfresh HB hbase (by simp;omega) h
 simp [execOp,ho,hx,hy,hr]
end
end Kd
def aWj (w:ao) (base:Nat) (e:TypeId) (size:Nat) (v:Value) (n:Nat) (xs:List Value):Prop :=
 xs.length = n*size∧
 ((n = 0∧∃ A,v = .slice A 0 0∧∀ a,A = some a→base≤a.block∧∃ cur,w.heap[a.block]? = some (.cells cur e (0,0)))∨
  ∃ g off cap cur,v = .slice (some ⟨g,off*size,none⟩) n cap∧base≤g∧w.heap[g]? = some (.cells cur e (0,0))∧n≤cap∧off+cap≤maxLen∧cur.size = (off+cap)*size∧(cur.toList.drop (off*size)).take (n*size) = xs)
section
variable {w w1:ao} {base n size:Nat} {e:TypeId} {v:Value} {xs:List Value}
theorem aBI (g o j:Nat):(⟨g,o,none⟩:Addr).add j = ⟨g,o+j,none⟩:=by unfold Addr.add;split <;> simp_all
end
namespace Kd
def Q {α:Type} (d:Kd α) (e:Nat) (w:ao) (base:Nat) (ok:Nat→Prop) (v:Value) (xs:List α):Prop :=
 (∀ k,v.ownBlock = some k→ok k)∧∃ inner,aWj w base e d.sz v xs.length inner∧lV (d.M w base (fun k=>ok k∧some k≠v.ownBlock)) d.sz xs inner
end Kd
namespace Kd
section
variable {α:Type} {d:Kd α} {e e':Nat} {w w1 W:ao} {base:Nat} {ok:Nat→Prop} {u v:Value} {xs:List α}
theorem ahH (h:d.R e w base ok v xs):∀ k,v.ownBlock = some k→∃ cells,w.heap[k]? = some (.cells cells e (0,0)):=by
 obtain ⟨inner,ho⟩:=an7 h
 exact fun k hk=>BV ho k hk
theorem asv (h:d.R e W base ok u xs) (hty:∀ k,v.ownBlock = some k→∃ cells,W.heap[k]? = some (.cells cells e' (0,0))) (ht:∀ q,q ∈ e :: d.E→q≠e') (hg:W.grownBy w1 v.ownBlock):d.R e w1 base ok u xs:=by
 refine jX (PU (uM h) (fun k hk=>hg.block k hk.2.2.1 (fun he=>?_))) (fun _ hk=>hk.1)
 obtain ⟨_,_,_,q,hq,cells,hc⟩:=hk
 obtain ⟨cells',hc'⟩:=hty k he.symm
 rw [hc] at hc'
 injection hc' with hc'
 injection hc' with _ hc'
 exact ht q hq hc'
theorem Nb (h:d.R e W base ok u xs) (hty:∀ k,v.ownBlock = some k→∃ cells,W.heap[k]? = some (.cells cells e' (0,0))) (ht:∀ q,q ∈ e :: d.E→q≠e'):d.R e W base (fun k=>ok k∧some k≠v.ownBlock) u xs:=by
 refine jX (uM h) (fun k hk=>⟨hk.1,fun he=>?_⟩)
 obtain ⟨_,_,_,q,hq,cells,hc⟩:=hk
 obtain ⟨cells',hc'⟩:=hty k he.symm
 rw [hc] at hc'
 injection hc' with hc'
 injection hc' with _ hc'
 exact ht q hq hc'
theorem Js (hu:d.R e W base ok u xs) (hbase:∀ k,v.ownBlock = some k→W.heap.size≤k) (hb:Below W.heap.size W w1):d.R e w1 base (fun k=>ok k∧some k≠v.ownBlock) u xs :=
 jX (PU (uM hu) (fun k hk=>hb.block k hk.2.2.1)) (fun k hk=>⟨hk.1,fun he=>by have:=hbase k he.symm;have:=hk.2.2.1;omega⟩)
theorem Zb (h:d.R e w1 W.heap.size ok v xs) (hlt:∀ k,u.ownBlock = some k→k < W.heap.size):d.R e w1 W.heap.size (fun k=>ok k∧some k≠u.ownBlock) v xs :=
 jX (uM h) (fun k hk=>⟨hk.1,fun he=>by have:=hlt k he.symm;have:=hk.2.1;omega⟩)
theorem fresh' (hlt:∀ k,u.ownBlock = some k→k < W.heap.size):∀ k,W.heap.size≤k→some k≠u.ownBlock:=fun k hk he=>by have:=hlt k he.symm;omega
end
end Kd
namespace Kd
section
variable {α:Type} {d:Kd α} {e base g n cap:Nat} {ok okp:Nat→Prop} {W:ao} {xs:List α}
theorem aBJ (h:d.R e W base ok (.slice (some ⟨g,0,none⟩) n cap) xs) (z:α) (i:Int) (h0:0≤i) (h1:i < n):
 ∃ c,c.length = d.sz∧d.M W base (fun k=>ok k∧k≠g) (xs.getD i.toNat z) c∧(∀ j u,c[j]? = some u→W.cell? ⟨g,i.toNat*d.sz+j,none⟩ = some u)∧∀ j,W.frozen? ⟨g,i.toNat*d.sz+j,none⟩ = false:=by
 obtain ⟨hn,hnc,hC⟩:=fK h
 obtain ⟨_,inner,ho,hr⟩:=h
 have hil:i.toNat < xs.length:=by omega
 have hseg:i.toNat*d.sz+d.sz≤inner.length:=by rw [hr.1,← Nat.succ_mul];exact Nat.mul_le_mul_right _ hil
 have hM:=hr.2 i.toNat _ (List.getElem?_eq_getElem hil)
 refine ⟨(inner.drop (i.toNat*d.sz)).take d.sz,by rw [List.length_take,List.length_drop];omega,?_,fun j u hu=>?_,fun j=>?_⟩
 ·rw [List.getD_eq_getElem?_getD,List.getElem?_eq_getElem hil]
  exact d.mI (fun k hk=>⟨hk.1,fun he=>hk.2 (by rw [he];simp [Value.ownBlock])⟩) hM
 ·rw [List.getElem?_take] at hu
  split at hu
  ·rw [List.getElem?_drop] at hu
   have:=ho.cells (g:=g) (by simp [Value.ownBlock]) _ u hu
   rwa [add_plain] at this
  ·cases hu
 ·obtain ⟨cells,hc⟩:=BV ho g (by simp [Value.ownBlock])
  exact bg hc _
end
end Kd
namespace Kd
end Kd
namespace Kd
theorem acV {α:Type} {R:α→List Value→Prop} {size:Nat} {ps qs:List α} {cs ds:List Value} (h:lV R size ps cs) (h':lV R size qs ds):lV R size (ps++qs) (cs++ds):=by
 refine ⟨by rw [List.length_append,List.length_append,h.1,h'.1,Nat.add_mul],fun j p hj=>?_⟩
 rcases Nat.lt_or_ge j ps.length with hlt|hge
 ·rw [List.getElem?_append_left hlt] at hj
  have hle:j*size+size≤cs.length:=by rw [h.1,← Nat.succ_mul];exact Nat.mul_le_mul_right _ hlt
  rw [List.drop_append_of_le_length (by omega),List.take_append_of_le_length (by rw [List.length_drop];omega)]
  exact h.2 j p hj
 ·rw [List.getElem?_append_right hge] at hj
  have h2:=h'.2 (j - ps.length) p hj
  have hle:ps.length*size≤j*size:=Nat.mul_le_mul_right _ hge
  rw [List.drop_append,List.drop_eq_nil_of_le (by rw [h.1];exact hle),List.nil_append,h.1,← Nat.sub_mul]
  exact h2
section
variable {P:Program} {ops:Array Oper} {rest:List Oper} {o:Oper} {a:Act} {Q:Exit→Act→ao→Prop} {α:Type}
theorem Xv (d:Kd α) {Rr:α→List Value→Prop} {w0 W:ao} (base:Nat) (hgd:o.guard = none) (s x:Operand) (t e:TypeId) (z:Value) (bytes:Nat)
 (ho:o.op = .call { callee:=.builtin .append,args:=#[s,x],argTypes:=#[t,t] })
 (ht:P.underlying t = some (.slice e)) (hinfo:(P.info? e).map (fun i=>(i.zero,i.size,i.bytes)) = some (some z,d.sz,bytes)) (hz:z.cells.size = d.sz) (hs0:0 < d.sz) (hb0:0 < bytes)
 (v:Value) (xs ys:List α) (A:Option Addr) (m c:Nat) (ok okp:Nat→Prop) (hs:a.eval s = v) (hx:a.eval x = .slice A m c)
 (HO:d.R e W base ok v xs) (HR:o9 Rr d.sz W A m ys) (hKM:∀ x cs,Rr x cs→d.M W base okp x cs) (af8:∀ k,okp k→ok k∧some k≠v.ownBlock) (hfresh:∀ k,W.heap.size≤k→ok k)
 (HB:Below base w0 W) (hbase:base≤W.heap.size) (hl:(xs.length+m)*bytes≤140737488355328)
 (h:∀ v1 w1,d.R e w1 base ok v1 (xs++ys)→Below base w0 w1→W.grownBy w1 v.ownBlock→(v1.ownBlock = v.ownBlock∨∃ b,v1.ownBlock = some b∧W.heap.size≤b)→wpList P ops Q rest (a.put o.dst v1) w1):
 wpList P ops Q (o :: rest) a W:=by
 obtain ⟨i0,hi,hzz⟩:=Option.map_eq_some_iff.1 hinfo
 simp only [Prod.mk.injEq] at hzz
 obtain ⟨hz0,hz1,hz2⟩:=hzz
 have hm:ys.length = m:=HR.1
 have hlen:xs.length+m≤140737488355328:=Nat.le_trans (Nat.le_mul_of_pos_right _ hb0) hl
 obtain ⟨hok,inner,hown,hr⟩:=HO
 have hrun:∃ v1 w1,(Builtin.append_ #[t,t] o.type #[v,.slice A m c]).run P W = .ok v1 w1∧d.R e w1 base ok v1 (xs++ys)∧W.grownBy w1 v.ownBlock∧(v1.ownBlock = v.ownBlock∨∃ b,v1.ownBlock = some b∧W.heap.size≤b):=by
  rcases A with _|ad
  ·have h0:m = 0:=by
    rcases Nat.eq_zero_or_pos m with h0|h0
    ·exact h0
    ·obtain ⟨ad,h,_⟩:=HR.2.2 h0
     cases h
   subst h0
   obtain rfl:ys = []:=List.eq_nil_of_length_eq_zero hm
   refine ⟨v,W,?_,by rw [List.append_nil];exact ⟨hok,inner,hown,hr⟩,World.grownBy.refl W _,.inl rfl⟩
   rcases hown.2 with ⟨rfl,hn⟩|⟨g,cap,cur,rfl,_,_,hnc,_⟩
   ·simp [Builtin.append_,run_underlying ht,sizeOf,typeInfo,hi,Builtin.lenOf,Builtin.firstCells]
   ·simp [Builtin.append_,run_underlying ht,sizeOf,typeInfo,hi,Builtin.lenOf,Builtin.firstCells,hnc,storeCells]
  ·obtain ⟨news,hnr,hnc⟩:=o9.aBF HR
   have hnM:lV (d.M W base okp) d.sz ys news:=hnr.Mv (fun p c hp=>hKM p c hp)
   have hone:∀ u ∈ news,u.oneCell' = true:=by
    intro u hu
    obtain ⟨q,hq,rfl⟩:=List.mem_iff_getElem.1 hu
    have hql:q / d.sz < ys.length:=by
     rw [Nat.div_lt_iff_lt_mul hs0]
     rw [← hnM.1]
     exact hq
    have hc:=hnM.2 (q / d.sz) _ (List.getElem?_eq_getElem hql)
    refine d.zZ (d.qh hc) _ ?_
    rw [List.mem_iff_getElem?]
    refine ⟨q % d.sz,?_⟩
    rw [List.getElem?_take,if_pos (Nat.mod_lt _ hs0),List.getElem?_drop,Nat.mul_comm,Nat.div_add_mod,List.getElem?_eq_getElem hq]
   obtain ⟨v1,w1,hrun,h2,hg,_,hat⟩:=run_append_own_at (P:=P) W base t o.type e i0 z d.sz bytes ht hi hz0 hz1 hz2 hz hs0 v xs.length inner hown ad m c news (by rw [hnM.1,hm]) hnc hone (by simp only [maxLen];omega) hl hbase
   have hat':v1.ownBlock = v.ownBlock∨∃ b,v1.ownBlock = some b∧W.heap.size≤b:=by
    rcases hat with hat|hat
    ·exact .inl hat
    ·exact .inr ⟨_,hat,Nat.le_refl _⟩
   have hne:∀ k,some k≠v.ownBlock→k < W.heap.size→some k≠v1.ownBlock:=by
    intro k hk hlt
    rcases hat' with hat|⟨b,hb,hle⟩
    ·rw [hat];exact hk
    ·rw [hb]
     intro he
     injection he with he
     omega
   have step:∀ {q:α} {c:List Value} {o:Nat→Prop},d.M W base o q c→(∀ k,o k→ok k∧some k≠v.ownBlock)→d.M w1 base (fun k=>ok k∧some k≠v1.ownBlock) q c:=by
    intro q c o hq ho
    have h1:=d.qM (w1:=w1) (fun k hk=>hg.block k hk.2.2.1 (ho k hk.1).2) (d.oh hq)
    exact d.mI (fun k hk=>⟨(ho k hk.1).1,hne k (ho k hk.1).2 hk.2.2.1⟩) h1
   refine ⟨v1,w1,hrun,⟨fun k hk=>?_,inner++news,by rw [List.length_append,hm];exact h2,acV (hr.Mv (fun _ _ hq=>step hq (fun _ hk=>hk))) (hnM.Mv (fun _ _ hq=>step hq af8))⟩,hg,hat'⟩
   rcases hat' with hat|⟨b,hb,hle⟩
   ·exact hok k (hat ▸ hk)
   ·rw [hb] at hk
    injection hk with hk
    exact hfresh k (by omega)
 obtain ⟨v1,w1,hr1,h1,hg,hat⟩:=hrun
 refine wpList_plain hgd fun K hK=>?_
 unfold Oper.wp execOp
 simp only [ho,resolve,invoke,builtin,Sem.run_bind,Sem.run_pure,Result.andThen_ok,List.map_toArray,List.map_cons,List.map_nil,hs,hx,hr1]
 exact hK _ _ (h v1 w1 h1 (HB.grown hg hbase (Cf hown)) hg hat)
end
end Kd
namespace Kd
end Kd
namespace Kd
end Kd
theorem fM {w W:ao} (h:Below w.heap.size w W):w.heap.size≤W.heap.size:=h.size
theorem bI {w W w2:ao} (h:Below w.heap.size w W) (k:Below W.heap.size W w2):Below w.heap.size w w2:=af4 h h.size k
theorem PX {w W:ao} {g j:Nat} {v:Value} (h:Below w.heap.size w W) (hg:w.heap.size≤g):Below w.heap.size w (W.setCell ⟨g,j,none⟩ v):=h.setCell hg _
theorem add_block (a:Addr) (i:Nat):(a.add i).block = a.block:=by unfold Addr.add;split <;> rfl
theorem cell_far {W:ao} {p a:Addr} (h:a.block≠p.block) (u:Value):(W.setCell p u).cell? a = W.cell? a:=by
 have:=Below.heap_setCell W p u a.block h
 simp [World.cell?,this]
theorem aK {w:ao} {g:Nat} {t:TypeId} {cs cs':Array Value} (h:w.heap[g]? = some (.cells cs t (0,0))) (i:Nat) (u:Value) (e:cs.setIfInBounds i u = cs'):(w.setCell ⟨g,i,none⟩ u).heap[g]? = some (.cells cs' t (0,0)):=e ▸ ast h i u
theorem bF {base:Nat} {w W:ao} (h:Below base w W):Below base w W.drew:=h.drew
namespace Kd
end Kd
namespace Kd
section
variable {α:Type} {d:Kd α} {e base g:Nat} {ok:Nat→Prop} {w w1:ao} {v:Value} {xs:List α} {o:Obj}
theorem sw (h:d.R e w base ok v xs) (a:Nat) (ha:w.heap.size≤a):d.R e w base (fun k=>ok k∧k≠a) v xs:=jX (uM h) (fun k hk=>⟨hk.1,by have:=hk.2.2.1;omega⟩)
theorem uw (h:d.R e w1 w.heap.size ok v xs) (hb:w.heap[g]? = some o):d.R e w1 w.heap.size (fun k=>ok k∧k≠g) v xs:=jX (uM h) (fun k hk=>⟨hk.1,by have:=bO hb;have:=hk.2.1;omega⟩)
theorem Zc (hb:w.heap[g]? = some o):∀ k,w.heap.size≤k→k≠g:=fun k hk=>by have:=bO hb;omega
end
end Kd
section
variable {P:Program} {ops:Array Oper} {rest:List Oper} {o:Oper} {a:Act} {Q:Exit→Act→ao→Prop}
theorem ak {W:ao} (hgd:o.guard = none) {N:Tmp} (_hd:o.dst = some N) {cs:Array Value} {t:TypeId}
 (hrun:(execOp a.eval o).run P W = .ok (.value (.pointer (some ⟨W.heap.size,0,none⟩))) (W.alloc (.cells cs t (0,0))))
 (h:∀ g,g = W.heap.size→∀ w1,w1.heap[g]? = some (.cells cs t (0,0))→Below W.heap.size W w1→wpList P ops Q rest (a.put o.dst (.pointer (some ⟨g,0,none⟩))) w1):wpList P ops Q (o :: rest) a W :=
 Kd.Yc hgd hrun (h _ rfl _ (eB W _) (aH (Below.refl _ _) _))
end
namespace Kd
end Kd
namespace Kd
end Kd
section
variable {P:Program} {ops:Array Oper} {rest:List Oper} {o:Oper} {a:Act} {Q:Exit→Act→ao→Prop} {W:ao}
theorem av {N:Tmp} (_hN:o.dst = some N) (h:wpList P ops Q (o :: rest) a W):wpList P ops Q (o :: rest) a W:=h
end
section
variable {P:Program} {ops:Array Oper} {o:Oper} {a:Act} {Q:Exit→Act→ao→Prop} {Kc:Act→ao→Prop}
theorem aga {W w1:ao} {v:Value} (hw:Region.wanted o (yielded ops a.tmps) = true) (hrun:(execOp a.eval o).run P W = .ok (.value v) w1) (h:Kc (a.put o.dst v) w1):if Region.wanted o (yielded ops a.tmps) = true then Oper.wp P o a W Kc Q else Kc (a.put o.dst undef) W:=by
 rw [if_pos hw]
 unfold Oper.wp
 rw [hrun]
 exact h
theorem pq {W:ao} (hw:Region.wanted o (yielded ops a.tmps) = true) {N:Tmp} (_hd:o.dst = some N) {cs:Array Value} {t:TypeId}
 (hrun:(execOp a.eval o).run P W = .ok (.value (.pointer (some ⟨W.heap.size,0,none⟩))) (W.alloc (.cells cs t (0,0))))
 (h:∀ g,g = W.heap.size→∀ w1,w1.heap[g]? = some (.cells cs t (0,0))→Below W.heap.size W w1→Kc (a.put o.dst (.pointer (some ⟨g,0,none⟩))) w1):if Region.wanted o (yielded ops a.tmps) = true then Oper.wp P o a W Kc Q else Kc (a.put o.dst undef) W :=
 aga hw hrun (h _ rfl _ (eB W _) (aH (Below.refl _ _) _))
namespace Kd
variable {α:Type}
end Kd
end
namespace Kd
end Kd
end Go.Proofs.YtmhaiihjfgfaoaaW.bu
end
section
namespace Go.Proofs.YtmhaiihjfgfaoaaW.dB
section
variable {P:Program} {ops:Array Oper} {Q:Exit→Act→ao→Prop} {md:Region.Mode} {S:ao→Prop} {ds:List Nat}
def Region.Av (md:Region.Mode) (ops:Array Oper) (i:Nat):Nat→Nat→Bool
 |0,_=>false
 |fuel+1,d=>match ops[d]? with
  |some o=>o.after.any fun e=>Region.binds md e && (e.on == i || Region.Av md ops i fuel e.on)
  |none=>false
def Region.Nc (md:Region.Mode) (ops:Array Oper) (listed:Array Bool):Bool :=
 (List.range ops.size).all fun j=>!listed.getD j false || match ops[j]? with
  |some o=>o.after.all fun e=>!Region.binds md e || listed.getD e.on false
  |none=>true
def Region.lastB (md:Region.Mode) (ops:Array Oper) (listed:Array Bool) (ds:List Nat) (i:Nat):Bool :=
 ds.all fun d=>listed.getD d true || Region.Av md ops i ops.size d
def qN (md:Region.Mode) (ops:Array Oper) (listed:Array Bool):Prop :=
 ∀ j oj,ops[j]? = some oj→listed.getD j false = true→∀ e ∈ oj.after,Region.binds md e = true→listed.getD e.on false = true
theorem Region.Zd {listed:Array Bool} (h:Region.Nc md ops listed = true):qN md ops listed:=by
 intro j oj hj hl e he hb
 have hlt:j < ops.size:=(Array.getElem?_eq_some_iff.1 hj).1
 have h1:=List.all_eq_true.1 h j (List.mem_range.2 hlt)
 simp only [hl,hj,Bool.not_true,Bool.false_or] at h1
 have h2:=Array.all_eq_true_iff_forall_mem.1 h1 e he
 simpa [hb] using h2
theorem qN.set {listed:Array Bool} {i:Nat} (h:qN md ops listed) (hi:i ∈ Region.ready md ops listed):qN md ops (listed.setIfInBounds i true):=by
 obtain ⟨_,oi,hoi,hall⟩:=mem_ready.1 hi
 intro j oj hj hl e he hb
 by_cases hij:i = j
 ·subst hij
  have:oj = oi:=bh (hj.symm.trans hoi)
  subst this
  exact getD_set_true (hall e he hb)
 ·rw [getD_set_ne false hij] at hl
  exact getD_set_true (h j oj hj hl e he hb)
theorem Region.Nf {listed:Array Bool} {i:Nat} (hc:qN md ops listed):∀ (fuel d:Nat),Region.Av md ops i fuel d = true→listed.getD d false = true→listed.getD i false = true
 |0,_,h,_=>by simp [Region.Av] at h
 |fuel+1,d,h,hl=>by
  unfold Region.Av at h
  cases ho:ops[d]? with
  |none=>rw [ho] at h;simp at h
  |some o =>
   rw [ho] at h
   obtain ⟨e,he,h1⟩:=Array.any_eq_true'.1 h
   simp only [Bool.and_eq_true,Bool.or_eq_true,beq_iff_eq] at h1
   have hle:=hc d o ho hl e he h1.1
   rcases h1.2 with h2|h2
   ·rw [← h2];exact hle
   ·exact Region.Nf hc fuel e.on h2 hle
theorem Region.RV {listed:Array Bool} {i d fuel:Nat} (hc:qN md ops listed) (hr:Region.Av md ops i fuel d = true) (hun:listed.getD i true = false):d ∉ Region.ready md ops listed:=by
 intro hd
 obtain ⟨_,o,ho,hall⟩:=mem_ready.1 hd
 have hi:listed.getD i false = true:=by
  cases fuel with
  |zero=>simp [Region.Av] at hr
  |succ n =>
   unfold Region.Av at hr
   rw [ho] at hr
   obtain ⟨e,he,h1⟩:=Array.any_eq_true'.1 hr
   simp only [Bool.and_eq_true,Bool.or_eq_true,beq_iff_eq] at h1
   have hle:=hall e he h1.1
   rcases h1.2 with h2|h2
   ·rw [← h2];exact hle
   ·exact Region.Nf hc n e.on h2 hle
 rcases Nat.lt_or_ge i listed.size with h'|h'
 ·simp [h'] at hun hi
  rw [hun] at hi
  cases hi
 ·simp [Array.getElem?_eq_none h'] at hun
def fD (P:Program) (md:Region.Mode) (ops:Array Oper) (Q:Exit→Act→ao→Prop) (S:ao→Prop) (ds:List Nat):Nat→Array Bool→Act→ao→Prop
 |0,listed,a,w=>Region.ready md ops listed = []∧Q .normal a w
 |fuel+1,listed,a,w =>
  (Region.ready md ops listed = []→Q .normal a w)∧
  ∀ i ∈ Region.ready md ops listed,wpOp P ops Q i (fun a' w'=>(i ∉ ds→S w→S w')∧fD P md ops Q S ds fuel (listed.setIfInBounds i true) a' w') a w
theorem EY:∀ (fuel:Nat) (listed:Array Bool) (a:Act) (w:ao),fD P md ops Q S ds fuel listed a w→wpAny P md ops Q fuel listed a w
 |0,_,_,_,h=>h
 |fuel+1,_,_,_,h=>⟨h.1,fun i hi=>wpOp_mono (fun a' w' h'=>EY fuel _ a' w' h'.2) (h.2 i hi)⟩
theorem RX {i:Nat} {oi:Oper} {v:Value} (hi:ops[i]? = some oi) (hsel:∀ (j:Nat) (o:Oper) cs b,ops[j]? = some o→o.op≠.select cs b)
 (hQ:∀ c a w,Q (.panic c) (a.put oi.dst v) w→Q (.panic c) a w) (n:Nat):
 ∀ (fuel:Nat) (listed:Array Bool) (a:Act) (w:ao),
  (∀ j oj,ops[j]? = some oj→j≠i→listed.getD j true = false→(∀ e ∈ oj.after,Region.binds md e = true→e.on≠i)→oi.apart ops oj = true)→
  qN md ops listed→(∀ d ∈ ds,listed.getD d true = false→Region.Av md ops i n d = true)→
  i ∈ Region.ready md ops listed→YieldsIf P ops S oi v a→S w→
  fD P md ops Q S ds fuel (listed.setIfInBounds i true) (a.put oi.dst v) w→fD P md ops Q S ds (fuel+1) listed a w:=by
 intro fuel
 induction fuel with
 |zero =>
  intro listed a w _ _ _ hr hy hS H
  refine ⟨fun h=>(by rw [h] at hr;cases hr),fun j hj=>?_⟩
  by_cases hji:j = i
  ·subst hji;exact hy.wpOp hi hS ⟨fun _ h=>h,H⟩
  ·have:=ready_mono hj hji
   rw [H.1] at this
   cases this
 |succ fuel ih =>
  intro listed a w hfree hc hd hr hy hS H
  refine ⟨fun h=>(by rw [h] at hr;cases hr),fun j hj=>?_⟩
  by_cases hji:j = i
  ·subst hji;exact hy.wpOp hi hS ⟨fun _ h=>h,H⟩
  ·have h1:=H.2 j (ready_mono hj hji)
   obtain ⟨hjun,oj,hoj,hall⟩:=mem_ready.1 hj
   have al4:=(mem_ready.1 hr).1
   have hnot:∀ e ∈ oj.after,Region.binds md e = true→e.on≠i:=fun e he hb heq=>by
    have h1:=hall e he hb
    rw [heq] at h1
    rcases Nat.lt_or_ge i listed.size with h'|h'
    ·simp [h'] at al4 h1;rw [al4] at h1;cases h1
    ·simp [Array.getElem?_eq_none h'] at h1
   have hjd:j ∉ ds:=fun hm=>Region.RV hc (hd j hm hjun) al4 hj
   have h2:=wpOp_putIf hoj (hfree j oj hoj hji hjun hnot) (fun cs b=>hsel i oi cs b hi) (fun cs b=>hsel j oj cs b hoj) hQ hy h1
   have hfree':∀ k ok,ops[k]? = some ok→k≠i→(listed.setIfInBounds j true).getD k true = false→
    (∀ e ∈ ok.after,Region.binds md e = true→e.on≠i)→oi.apart ops ok = true:=fun k ok hk hki hun hno=>by
    refine hfree k ok hk hki ?_ hno
    by_cases hjk:j = k
    ·subst hjk;exact hjun
    ·rw [getD_set_ne true hjk] at hun;exact hun
   have hd':∀ d ∈ ds,(listed.setIfInBounds j true).getD d true = false→Region.Av md ops i n d = true:=fun d hm hun=>by
    refine hd d hm ?_
    by_cases hjk:j = d
    ·subst hjk;exact hjun
    ·rw [getD_set_ne true hjk] at hun;exact hun
   refine wpOp_mono (fun a' w' h3=>⟨h3.2.1,ih (listed.setIfInBounds j true) a' w' hfree' (hc.set hj) hd' (ready_mono hr (Ne.symm hji)) h3.1 (h3.2.1 hjd hS) ?_⟩) h2
   rw [Array.setIfInBounds_comm _ _ hji]
   exact h3.2.2
theorem Xw {i:Nat} {oi:Oper} {v:Value} (hi:ops[i]? = some oi) (hsel:∀ (j:Nat) (o:Oper) cs b,ops[j]? = some o→o.op≠.select cs b)
 (hQ:∀ c a w,Q (.panic c) (a.put oi.dst v) w→Q (.panic c) a w):
 ∀ (fuel:Nat) (listed:Array Bool) (a:Act) (w:ao),
  (∀ j oj,ops[j]? = some oj→j≠i→listed.getD j true = false→(∀ e ∈ oj.after,Region.binds md e = true→e.on≠i)→oi.apart ops oj = true)→
  i ∈ Region.ready md ops listed→Yields P ops oi v a→
  fD P md ops Q S ds fuel (listed.setIfInBounds i true) (a.put oi.dst v) w→fD P md ops Q S ds (fuel+1) listed a w:=by
 intro fuel
 induction fuel with
 |zero =>
  intro listed a w _ hr hy H
  refine ⟨fun h=>(by rw [h] at hr;cases hr),fun j hj=>?_⟩
  by_cases hji:j = i
  ·subst hji;exact (hy.yieldsIf (S:=fun _=>True)).wpOp hi trivial ⟨fun _ h=>h,H⟩
  ·have:=ready_mono hj hji
   rw [H.1] at this
   cases this
 |succ fuel ih =>
  intro listed a w hfree hr hy H
  refine ⟨fun h=>(by rw [h] at hr;cases hr),fun j hj=>?_⟩
  by_cases hji:j = i
  ·subst hji;exact (hy.yieldsIf (S:=fun _=>True)).wpOp hi trivial ⟨fun _ h=>h,H⟩
  ·have h1:=H.2 j (ready_mono hj hji)
   obtain ⟨hjun,oj,hoj,hall⟩:=mem_ready.1 hj
   have al4:=(mem_ready.1 hr).1
   have hnot:∀ e ∈ oj.after,Region.binds md e = true→e.on≠i:=fun e he hb heq=>by
    have h1:=hall e he hb
    rw [heq] at h1
    rcases Nat.lt_or_ge i listed.size with h'|h'
    ·simp [h'] at al4 h1;rw [al4] at h1;cases h1
    ·simp [Array.getElem?_eq_none h'] at h1
   have h2:=wpOp_put hoj (hfree j oj hoj hji hjun hnot) (fun cs b=>hsel i oi cs b hi) (fun cs b=>hsel j oj cs b hoj) hQ hy h1
   have hfree':∀ k ok,ops[k]? = some ok→k≠i→(listed.setIfInBounds j true).getD k true = false→
    (∀ e ∈ ok.after,Region.binds md e = true→e.on≠i)→oi.apart ops ok = true:=fun k ok hk hki hun hno=>by
    refine hfree k ok hk hki ?_ hno
    by_cases hjk:j = k
    ·subst hjk;exact hjun
    ·rw [getD_set_ne true hjk] at hun;exact hun
   refine wpOp_mono (fun a' w' h3=>⟨h3.2.1,ih (listed.setIfInBounds j true) a' w' hfree' (ready_mono hr (Ne.symm hji)) h3.1 ?_⟩) h2
   rw [Array.setIfInBounds_comm _ _ hji]
   exact h3.2.2
theorem Vl {i:Nat} {oi:Oper} {v:Value} {fuel:Nat} {listed:Array Bool} {a:Act} {w:ao} (hi:ops[i]? = some oi)
 (hs:Region.noSelect ops = true) (hf:Region.free md ops listed i = true) (hr:(Region.ready md ops listed).contains i = true)
 (hc:Region.Nc md ops listed = true) (hl:Region.lastB md ops listed ds i = true)
 (hQ:∀ c a w,Q (.panic c) (a.put oi.dst v) w→Q (.panic c) a w) (hy:YieldsIf P ops S oi v a) (hS:S w)
 (h:fD P md ops Q S ds fuel (listed.setIfInBounds i true) (a.put oi.dst v) w):fD P md ops Q S ds (fuel+1) listed a w :=
 RX hi (Region.noSelect_spec hs) hQ ops.size fuel listed a w (Region.free_spec hi hf) (Region.Zd hc)
  (fun d hm hun=>by have:=List.all_eq_true.1 hl d hm;rw [hun] at this;simpa using this) (by simpa using hr) hy hS h
theorem Xx {rs:List Nat} {fuel:Nat} {listed:Array Bool} {a:Act} {w:ao} (hr:Region.ready md ops listed = rs) (hne:rs≠[])
 (h:∀ i ∈ rs,wpOp P ops Q i (fun a' w'=>(i ∉ ds→S w→S w')∧fD P md ops Q S ds fuel (listed.setIfInBounds i true) a' w') a w):fD P md ops Q S ds (fuel+1) listed a w :=
 ⟨fun h0=>absurd (hr ▸ h0) hne,hr ▸ h⟩
theorem Vm {listed:Array Bool} {a:Act} {w:ao} (hr:Region.ready md ops listed = []) (h:Q .normal a w):
 ∀ fuel,fD P md ops Q S ds fuel listed a w
 |0=>⟨hr,h⟩
 |_+1=>⟨fun _=>h,by rw [hr];simp⟩
theorem Vn {id:Nat} {a:Act} {w:ao} (hm:P.follows .mixedOrders = true)
 (h:fD P .any ops Q S ds ops.size (Array.replicate ops.size false) a { w with drawn:=w.drawn+1 }):(Code.region id ops true).wp P Q a w :=
 wp_region_any hm (EY _ _ _ _ h)
end
section
variable {P:Program} {ops:Array Oper} {Q:Exit→Act→ao→Prop} {md:Region.Mode} {S:ao→Prop} {ds:List Nat}
def nG (P:Program) (md:Region.Mode) (ops:Array Oper) (Q:Exit→Act→ao→Prop) (S:ao→Prop) (ds:List Nat) (fuel:Nat) (listed:Array Bool) (a:Act) (w:ao) (rs:List Nat):Prop :=
 ∀ i ∈ rs,wpOp P ops Q i (fun a' w'=>(i ∉ ds→S w→S w')∧fD P md ops Q S ds fuel (listed.setIfInBounds i true) a' w') a w
theorem nG.nil {fuel:Nat} {listed:Array Bool} {a:Act} {w:ao}:nG P md ops Q S ds fuel listed a w []:=fun _ h=>by cases h
theorem nG.cons {fuel:Nat} {listed:Array Bool} {a:Act} {w:ao} {i:Nat} {o:Oper} {rs:List Nat} (ho:ops[i]? = some o) (hd:i ∉ ds)
 (h:∀ K':Act→ao→Prop,Shut (∀ a w,S w→(S w→fD P md ops Q S ds fuel (listed.setIfInBounds i true) a w)→K' a w)→if Region.wanted o (yielded ops a.tmps) = true then Oper.wp P o a w K' Q else K' (a.put o.dst undef) w)
 (hs:nG P md ops Q S ds fuel listed a w rs):nG P md ops Q S ds fuel listed a w (i :: rs):=fun j hj=>by
 rcases List.mem_cons.1 hj with rfl|hj
 ·exact wpOp_step ho (fun K' hK=>h K' (fun a w hS hW=>hK a w ⟨fun _ _=>hS,hW hS⟩))
 ·exact hs j hj
theorem nG.al5 {fuel:Nat} {listed:Array Bool} {a:Act} {w:ao} {i:Nat} {o:Oper} {rs:List Nat} (ho:ops[i]? = some o) (hd:i ∈ ds)
 (h:∀ K':Act→ao→Prop,Shut (∀ a w,fD P md ops Q S ds fuel (listed.setIfInBounds i true) a w→K' a w)→if Region.wanted o (yielded ops a.tmps) = true then Oper.wp P o a w K' Q else K' (a.put o.dst undef) w)
 (hs:nG P md ops Q S ds fuel listed a w rs):nG P md ops Q S ds fuel listed a w (i :: rs):=fun j hj=>by
 rcases List.mem_cons.1 hj with rfl|hj
 ·exact wpOp_step ho (fun K' hK=>h K' (fun a w hW=>hK a w ⟨fun hn=>absurd hd hn,hW⟩))
 ·exact hs j hj
theorem Aw {rs:List Nat} {fuel:Nat} {listed:Array Bool} {a:Act} {w:ao} (hr:Region.ready md ops listed = rs) (hne:rs≠[])
 (h:nG P md ops Q S ds fuel listed a w rs):fD P md ops Q S ds (fuel+1) listed a w:=Xx hr hne h
theorem jV {id n:Nat} {a:Act} {w:ao} (l:Array Bool) (hm:P.follows .mixedOrders = true) (hn:ops.size = n) (hl:Array.replicate n false = l) (hS:S w.drew)
 (h:S w.drew→fD P .any ops Q S ds n l a w.drew):(Code.region id ops true).wp P Q a w:=by
 subst hn
 subst hl
 exact Vn hm (h hS)
def takeB (md:Region.Mode) (ops:Array Oper) (ds:List Nat) (l l':Array Bool) (i:Nat):Bool :=
 Region.noSelect ops && Region.free md ops l i && (Region.ready md ops l).contains i && Region.Nc md ops l && Region.lastB md ops l ds i && (l.setIfInBounds i true == l')
theorem aEY {i:Nat} {N:Option Tmp} {oi:Oper} {v:Value} {fuel:Nat} {l:Array Bool} {a:Act} {w:ao} (l':Array Bool) (hi:ops[i]? = some oi) (hN:oi.dst = N) (hc:takeB md ops ds l l' i = true)
 (hQ:∀ c a w,Q (.panic c) (a.put oi.dst v) w→Q (.panic c) a w) (hy:YieldsIf P ops S oi v a) (hS:S w) {a':Act} (ha:a.put N v = a')
 (h:fD P md ops Q S ds fuel l' a' w):fD P md ops Q S ds (fuel+1) l a w:=by
 subst ha
 subst hN
 simp only [takeB,Bool.and_eq_true,beq_iff_eq] at hc
 obtain ⟨⟨⟨⟨⟨h1,h2⟩,h3⟩,h4⟩,h5⟩,h6⟩:=hc
 subst h6
 exact Vl hi h1 h2 h3 h4 h5 hQ hy hS h
def an8 (md:Region.Mode) (ops:Array Oper) (l l':Array Bool) (i:Nat):Bool :=
 Region.noSelect ops && Region.free md ops l i && (Region.ready md ops l).contains i && (l.setIfInBounds i true == l')
theorem j6 {i:Nat} {N:Option Tmp} {oi:Oper} {v:Value} {fuel:Nat} {l:Array Bool} {a:Act} {w:ao} (l':Array Bool) (hi:ops[i]? = some oi) (hN:oi.dst = N) (hc:an8 md ops l l' i = true)
 (hQ:∀ c a w,Q (.panic c) (a.put oi.dst v) w→Q (.panic c) a w) (hy:Yields P ops oi v a) {a':Act} (ha:a.put N v = a')
 (h:fD P md ops Q S ds fuel l' a' w):fD P md ops Q S ds (fuel+1) l a w:=by
 subst ha
 subst hN
 simp only [an8,Bool.and_eq_true,beq_iff_eq] at hc
 obtain ⟨⟨⟨h1,h2⟩,h3⟩,h6⟩:=hc
 subst h6
 exact Xw hi (Region.noSelect_spec h1) hQ fuel l a w (Region.free_spec hi h2) (by simpa using h3) hy h
def PY (md:Region.Mode) (ops:Array Oper) (l l':Array Bool) (i:Nat):Bool:=(Region.ready md ops l == [i]) && (l.setIfInBounds i true == l')
theorem iW {i:Nat} {N:Option Tmp} {oi:Oper} {fuel:Nat} {l:Array Bool} {a:Act} {w:ao} (l':Array Bool) (hi:ops[i]? = some oi) (hN:oi.dst = N) (hc:PY md ops l l' i = true) (hd:i ∉ ds)
 (h:∀ K:Act→ao→Prop,Shut (∀ a' w',S w'→(S w'→fD P md ops Q S ds fuel l' a' w')→K a' w')→if Region.wanted oi (yielded ops a.tmps) = true then Oper.wp P oi a w K Q else K (a.put N undef) w):
 fD P md ops Q S ds (fuel+1) l a w:=by
 subst hN
 simp only [PY,Bool.and_eq_true,beq_iff_eq] at hc
 obtain ⟨h1,h2⟩:=hc
 subst h2
 exact Aw h1 (by simp) (nG.cons hi hd (fun K hK=>h K hK) nG.nil)
theorem Mf {i:Nat} {N:Option Tmp} {oi:Oper} {fuel:Nat} {l:Array Bool} {a:Act} {w:ao} (l':Array Bool) (hi:ops[i]? = some oi) (hN:oi.dst = N) (hc:PY md ops l l' i = true) (hd:i ∈ ds)
 (h:∀ K:Act→ao→Prop,Shut (∀ a' w',fD P md ops Q S ds fuel l' a' w'→K a' w')→if Region.wanted oi (yielded ops a.tmps) = true then Oper.wp P oi a w K Q else K (a.put N undef) w):
 fD P md ops Q S ds (fuel+1) l a w:=by
 subst hN
 simp only [PY,Bool.and_eq_true,beq_iff_eq] at hc
 obtain ⟨h1,h2⟩:=hc
 subst h2
 exact Aw h1 (by simp) (nG.al5 hi hd (fun K hK=>h K hK) nG.nil)
theorem mi {l:Array Bool} {a:Act} {w:ao} {n:Nat} (hr:(Region.ready md ops l == []) = true) (h:Q .normal a w):fD P md ops Q S ds n l a w:=Vm (by simpa using hr) h n
theorem Xy {i j:Nat} {Ni Nj:Option Tmp} {oi oj:Oper} {fuel:Nat} {l:Array Bool} {a:Act} {w:ao} (li lj:Array Bool) (hi:ops[i]? = some oi) (hj:ops[j]? = some oj) (hNi:oi.dst = Ni) (hNj:oj.dst = Nj)
 (hc:(Region.ready md ops l == [i,j] && l.setIfInBounds i true == li && l.setIfInBounds j true == lj) = true) (hdi:i ∉ ds) (hdj:j ∉ ds)
 (h1:∀ K:Act→ao→Prop,Shut (∀ a' w',S w'→(S w'→fD P md ops Q S ds fuel li a' w')→K a' w')→if Region.wanted oi (yielded ops a.tmps) = true then Oper.wp P oi a w K Q else K (a.put Ni undef) w)
 (h2:∀ K:Act→ao→Prop,Shut (∀ a' w',S w'→(S w'→fD P md ops Q S ds fuel lj a' w')→K a' w')→if Region.wanted oj (yielded ops a.tmps) = true then Oper.wp P oj a w K Q else K (a.put Nj undef) w):
 fD P md ops Q S ds (fuel+1) l a w:=by
 subst hNi
 subst hNj
 simp only [Bool.and_eq_true,beq_iff_eq] at hc
 obtain ⟨⟨h3,h4⟩,h5⟩:=hc
 subst h4
 subst h5
 exact Aw h3 (by simp) (nG.cons hi hdi (fun K hK=>h1 K hK) (nG.cons hj hdj (fun K hK=>h2 K hK) nG.nil))
def wy:Act→List (Tmp × Value)→Act
 |a,[]=>a
 |a,(n,v) :: r=>wy (a.put (some n) v) r
theorem Ro {σ:Type} {fuel:Nat} {l:Array Bool} {a:Act} {w:ao} (fuel':Nat) (l':Array Bool) (ns:σ→List (Tmp × Value)) (F:σ→ao→Prop)
 (hcont:∀ s w',F s w'→fD P md ops Q S ds fuel' l' (wy a (ns s)) w')
 (h:(∀ s w',F s w'→fD P md ops Q S ds fuel' l' (wy a (ns s)) w')→fD P md ops Q S ds fuel l a w):fD P md ops Q S ds fuel l a w:=h hcont
theorem dQ {fuel:Nat} {l:Array Bool} {a a':Act} {w:ao} (ha:a = a') (h:fD P md ops Q S ds fuel l a' w):fD P md ops Q S ds fuel l a w:=by
 subst ha
 exact h
theorem call_ {oi:Oper} {N:Option Tmp} {a:Act} {w:ao} {K:Act→ao→Prop} (f:FuncId) (args:Array Value) (hw:Region.wanted oi (yielded ops a.tmps) = true) (hN:oi.dst = N) (hrun:(execOp a.eval oi).run P w = .ok (.enter f args) w)
 (h:Calls P f args w fun e w'=>∃ v,e = .returned v∧K (a.put N v) w'):if Region.wanted oi (yielded ops a.tmps) = true then Oper.wp P oi a w K Q else K (a.put N undef) w:=by
 rw [if_pos hw]
 subst hN
 unfold Oper.wp
 rw [hrun,Oper.upon_enter]
 refine h.mono fun e w'' hh=>?_
 obtain ⟨v,rfl,hk⟩:=hh
 exact hk
theorem Ze {f:FuncId} {fn:Func} (hf:P.funcs[f]? = some fn) (hname:(fn.name == "runtime.NumGoroutine") = false) (hb:fn.body.isSome = true) (args:Array Value) (w:ao):(callFunc f args).run P w = .ok (.enter f args) w:=by
 have h1:fn.name≠"runtime.NumGoroutine":=by simpa using hname
 obtain ⟨c,hc⟩:=Option.isSome_iff_exists.1 hb
 simp [callFunc,hf,h1,hc]
theorem gY {oi:Oper} {N:Option Tmp} {a:Act} {w:ao} {K:Act→ao→Prop} {f:FuncId} {fn:Func} {as_:Array Operand} {ts:Array TypeId} (hf:P.funcs[f]? = some fn) (hname:(fn.name == "runtime.NumGoroutine") = false) (hb:fn.body.isSome = true) (args:Array Value)
 (hw:Region.wanted oi (yielded ops a.tmps) = true) (hN:oi.dst = N) (hop:oi.op = .call { callee:=.value (.func f),args:=as_,argTypes:=ts }) (hargs:as_.map a.eval = args)
 (h:Calls P f args w fun e w'=>∃ v,e = .returned v∧K (a.put N v) w'):if Region.wanted oi (yielded ops a.tmps) = true then Oper.wp P oi a w K Q else K (a.put N undef) w:=by
 refine call_ f args hw hN ?_ h
 have he:=Ze hf hname hb args w
 unfold execOp
 simp [hop,resolve,Deferred.ofValue,invoke,Act.eval,hargs,he]
theorem dn {rest:List Oper} {oi:Oper} {a:Act} {w:ao} (N:Option Tmp) (hd:oi.dst = N) (hg:oi.guard = none) {f:FuncId} {fn:Func} {as_:Array Operand} {ts:Array TypeId} (hf:P.funcs[f]? = some fn) (hname:(fn.name == "runtime.NumGoroutine") = false) (hb:fn.body.isSome = true) (args:Array Value)
 (hop:oi.op = .call { callee:=.value (.func f),args:=as_,argTypes:=ts }) (hargs:as_.map a.eval = args)
 (h:Calls P f args w fun e w'=>∃ v,e = .returned v∧wpList P ops Q rest (a.put N v) w'):wpList P ops Q (oi :: rest) a w:=by
 refine wpList_plain hg fun K hK=>?_
 have he:=Ze hf hname hb args w
 have hrun:(execOp a.eval oi).run P w = .ok (.enter f args) w:=by
  unfold execOp
  simp [hop,resolve,Deferred.ofValue,invoke,Act.eval,hargs,he]
 unfold Oper.wp
 rw [hrun,Oper.upon_enter]
 refine h.mono fun e w'' hh=>?_
 obtain ⟨v,rfl,hk⟩:=hh
 subst hd
 exact hK _ _ hk
theorem GG {oi:Oper} {N:Option Tmp} {a:Act} {w w1:ao} {v:Value} {K:Act→ao→Prop} (hw:Region.wanted oi (yielded ops a.tmps) = true) (hN:oi.dst = N) (hrun:(execOp a.eval oi).run P w = .ok (.value v) w1)
 (h:K (a.put N v) w1):if Region.wanted oi (yielded ops a.tmps) = true then Oper.wp P oi a w K Q else K (a.put N undef) w:=by
 rw [if_pos hw]
 subst hN
 unfold Oper.wp
 rw [hrun]
 exact h
theorem vF {oi:Oper} {a:Act} {w w1:ao} {K:Act→ao→Prop} (hw:Region.wanted oi (yielded ops a.tmps) = true) (hN:oi.dst = none) (hrun:(execOp a.eval oi).run P w = .ok .skip w1)
 (h:K a w1):if Region.wanted oi (yielded ops a.tmps) = true then Oper.wp P oi a w K Q else K (a.put none undef) w:=by
 rw [if_pos hw]
 unfold Oper.wp
 rw [hrun]
 show K (a.put oi.dst undef) w1
 rw [hN]
 exact h
theorem eY (n:Int):IntKind.i64.wrap n = Go.RowKit.wrap64 n:=by unfold Go.RowKit.wrap64;exact IntKind.wrap_i64 n
theorem fo (n:Int):IntKind.i32.wrap n = Go.RowKit.wrap32 n:=by unfold Go.RowKit.wrap32;exact IntKind.wrap_i32 n
end
end Go.Proofs.YtmhaiihjfgfaoaaW.dB
end
section
namespace Go.Proofs.YtmhaiihjfgfaoaaW.dB
open Go.Proofs.YtmhaiihjfgfaoaaW.bu (af)
def Kv (md:Region.Mode) (o:Oper):List Nat:=(o.after.toList.filter (fun e=>Region.binds md e)).map (fun e=>e.on)
def Zf (md:Region.Mode) (ops:Array Oper) (i:Nat) (oi:Oper):List Nat:=(List.range ops.size).filter fun j=>!(j == i) && match ops[j]? with
 |some oj=>!(oj.after.any (fun e=>Region.binds md e && e.on == i) || oi.apart ops oj)
 |none=>false
def rX (md:Region.Mode) (ops:Array Oper):Bool × List (List Nat × List Nat):=(Region.noSelect ops,(List.range ops.size).map fun i=>match ops[i]? with
 |some o=>(Kv md o,Zf md ops i o)
 |none=>([],[]))
def Dw (T:List (List Nat × List Nat)) (l:List Bool) (i:Nat):Bool:=!l.getD i true && match T[i]? with
 |some r=>r.1.all (fun j=>l.getD j false)
 |none=>false
def PZ (T:List (List Nat × List Nat)) (l:List Bool):List Nat:=(List.range T.length).filter (Dw T l)
def acW (T:List (List Nat × List Nat)) (l:List Bool) (i:Nat):Bool:=match T[i]? with
 |some r=>r.2.all (fun j=>l.getD j true)
 |none=>false
def Sk (T:List (List Nat × List Nat)) (l:List Bool):Bool:=(List.range T.length).all fun j=>!l.getD j false || match T[j]? with
 |some r=>r.1.all (fun k=>l.getD k false)
 |none=>true
def P5 (T:List (List Nat × List Nat)) (i:Nat):Nat→Nat→Bool
 |0,_=>false
 |fuel+1,d=>match T[d]? with
  |some r=>r.1.any fun j=>j == i || P5 T i fuel j
  |none=>false
def lastT (T:List (List Nat × List Nat)) (l:List Bool) (ds:List Nat) (i:Nat):Bool:=ds.all fun d=>l.getD d true || P5 T i T.length d
section
variable {md:Region.Mode} {ops:Array Oper} {T:Bool × List (List Nat × List Nat)} {l l' li lj lk:Array Bool} {ds:List Nat} {i j k:Nat}
theorem gd (l:Array Bool) (j:Nat) (b:Bool):l.getD j b = l.toList.getD j b:=by simp [Array.getD_eq_getD_getElem?,List.getD_eq_getElem?_getD]
theorem Yd (o:Oper) (p:Nat→Bool):o.after.all (fun e=>!Region.binds md e || p e.on) = (Kv md o).all p:=by
 unfold Kv
 rw [← Array.all_toList]
 induction o.after.toList with
 |nil=>rfl
 |cons e r ih =>
  rw [List.all_cons,ih,List.filter_cons]
  cases h:Region.binds md e <;> simp
theorem al6 (o:Oper) (p:Nat→Bool):o.after.any (fun e=>Region.binds md e && p e.on) = (Kv md o).any p:=by
 unfold Kv
 rw [← Array.any_toList]
 induction o.after.toList with
 |nil=>rfl
 |cons e r ih =>
  rw [List.any_cons,ih,List.filter_cons]
  cases h:Region.binds md e <;> simp
theorem Dx:(rX md ops).2.length = ops.size:=by simp [rX]
theorem Kw {o:Oper} (h:ops[i]? = some o):(rX md ops).2[i]? = some (Kv md o,Zf md ops i o):=by
 have hi:=(Array.getElem?_eq_some_iff.1 h).1
 unfold rX
 rw [List.getElem?_map,List.getElem?_range hi,Option.map_some,h]
theorem Ky (h:ops[i]? = none):(rX md ops).2[i]? = none:=by
 have hi:ops.size≤i:=Array.getElem?_eq_none_iff.1 h
 exact List.getElem?_eq_none (by rw [Dx];exact hi)
theorem agb:Dw (rX md ops).2 l.toList i = (!l.getD i true && ((ops[i]?).map (·.after.all fun e=>!Region.binds md e || l.getD e.on false)).getD false):=by
 unfold Dw
 rw [gd]
 cases h:ops[i]? with
 |none=>rw [Ky h];rfl
 |some o =>
  rw [Kw h]
  simp only [Option.map_some,Option.getD_some]
  rw [← Yd]
  simp only [gd]
theorem ready_eq:Region.ready md ops l = PZ (rX md ops).2 l.toList:=by
 unfold Region.ready PZ
 rw [Dx]
 refine List.filter_congr (fun i _=>?_)
 rw [agb]
theorem free_eq:Region.free md ops l i = acW (rX md ops).2 l.toList i:=by
 unfold Region.free acW
 cases h:ops[i]? with
 |none=>rw [Ky h]
 |some oi =>
  rw [Kw h]
  simp only [Zf]
  rw [List.all_filter]
  congr 1
  funext j
  rw [gd]
  cases hj:ops[j]? with
  |none=>cases (j == i) <;> cases (l.toList.getD j true) <;> simp
  |some oj =>
   cases (j == i) <;> cases (l.toList.getD j true) <;> cases (oj.after.any (fun e=>Region.binds md e && e.on == i) || oi.apart ops oj) <;> simp_all
theorem al7:Region.Nc md ops l = Sk (rX md ops).2 l.toList:=by
 unfold Region.Nc Sk
 rw [Dx]
 congr 1
 funext j
 rw [gd]
 cases h:ops[j]? with
 |none=>rw [Ky h]
 |some o =>
  rw [Kw h]
  simp only
  rw [← Yd]
  simp only [gd]
theorem acX:∀ (fuel d:Nat),Region.Av md ops i fuel d = P5 (rX md ops).2 i fuel d
 |0,_=>rfl
 |fuel+1,d=>by
  unfold Region.Av P5
  cases h:ops[d]? with
  |none=>rw [Ky h]
  |some o =>
   rw [Kw h]
   simp only
   rw [← al6]
   congr 1
   funext e
   rw [acX fuel]
theorem asw:Region.lastB md ops l ds i = lastT (rX md ops).2 l.toList ds i:=by
 unfold Region.lastB lastT
 rw [Dx]
 congr 1
 funext d
 rw [gd,acX]
theorem Rp (h:Dw T.2 l.toList i = true) (hT:rX md ops = T):(Region.ready md ops l).contains i = true:=by
 subst hT
 rw [ready_eq]
 unfold PZ
 rw [List.contains_iff_mem,List.mem_filter,List.mem_range]
 refine ⟨?_,h⟩
 unfold Dw at h
 rw [Bool.and_eq_true] at h
 cases hq:(rX md ops).2[i]? with
 |none=>rw [hq] at h;simp at h
 |some r=>exact (List.getElem?_eq_some_iff.1 hq).1
theorem Vo (h:(l.toList.set i true == l'.toList) = true):(l.setIfInBounds i true == l') = true:=by
 rw [beq_iff_eq] at h ⊢
 apply Array.ext'
 rw [Array.toList_setIfInBounds]
 exact h
def aEZ (T:Bool × List (List Nat × List Nat)) (l l':List Bool) (i:Nat):Bool:=T.1 && acW T.2 l i && Dw T.2 l i && (l.set i true == l')
theorem aY (hT:rX md ops = T) (h:aEZ T l.toList l'.toList i = true):an8 md ops l l' i = true:=by
 simp only [aEZ,Bool.and_eq_true] at h
 obtain ⟨⟨⟨h1,h2⟩,h3⟩,h4⟩:=h
 have h5:=Rp h3 hT
 have h6:=Vo h4
 subst hT
 simp only [an8,Bool.and_eq_true]
 exact ⟨⟨⟨h1,by rw [free_eq];exact h2⟩,h5⟩,h6⟩
def an9 (T:Bool × List (List Nat × List Nat)) (ds:List Nat) (l l':List Bool) (i:Nat):Bool:=T.1 && acW T.2 l i && Dw T.2 l i && Sk T.2 l && lastT T.2 l ds i && (l.set i true == l')
theorem asx (hT:rX md ops = T) (h:an9 T ds l.toList l'.toList i = true):takeB md ops ds l l' i = true:=by
 simp only [an9,Bool.and_eq_true] at h
 obtain ⟨⟨⟨⟨⟨h1,h2⟩,h3⟩,h4⟩,h5⟩,h6⟩:=h
 have h7:=Rp h3 hT
 have h8:=Vo h6
 subst hT
 simp only [takeB,Bool.and_eq_true]
 exact ⟨⟨⟨⟨⟨h1,by rw [free_eq];exact h2⟩,h7⟩,by rw [al7];exact h4⟩,by rw [asw];exact h5⟩,h8⟩
theorem gJ (hT:rX md ops = T) (h:(PZ T.2 l.toList == [i] && l.toList.set i true == l'.toList) = true):PY md ops l l' i = true:=by
 simp only [Bool.and_eq_true] at h
 obtain ⟨h1,h2⟩:=h
 subst hT
 simp only [PY,Bool.and_eq_true]
 exact ⟨by rw [ready_eq];exact h1,Vo h2⟩
theorem Jt (hT:rX md ops = T) (h:(PZ T.2 l.toList == [i,j] && l.toList.set i true == li.toList && l.toList.set j true == lj.toList) = true):(Region.ready md ops l == [i,j] && l.setIfInBounds i true == li && l.setIfInBounds j true == lj) = true:=by
 simp only [Bool.and_eq_true] at h ⊢
 obtain ⟨⟨h1,h2⟩,h3⟩:=h
 subst hT
 exact ⟨⟨by rw [ready_eq];exact h1,Vo h2⟩,Vo h3⟩
theorem ni (hT:rX md ops = T) (h:(PZ T.2 l.toList == []) = true):(Region.ready md ops l == []) = true:=by
 subst hT
 rw [ready_eq]
 exact h
def upM (B:List Nat) (d:Nat):List Nat→Nat
 |[]=>0
 |n :: r=>(2 ^ n ||| (if n < d then B.getD n 0 else 0)) ||| upM B d r
def oF (T:List (List Nat × List Nat)) (B:List Nat):Bool:=(List.range T.length).all fun d=>match T[d]? with
 |some r=>(B.getD d 0 ||| upM B d r.1) == upM B d r.1
 |none=>false
theorem ahI {B:List Nat} {d i:Nat}:∀ {ns:List Nat},(upM B d ns).testBit i = true→∃ n ∈ ns,n = i∨(n < d∧(B.getD n 0).testBit i = true)
 |[],h=>by simp [upM] at h
 |n :: r,h=>by
  unfold upM at h
  rw [Nat.testBit_or,Nat.testBit_or,Bool.or_eq_true,Bool.or_eq_true] at h
  rcases h with (h|h)|h
  ·rw [Nat.testBit_two_pow] at h
   exact ⟨n,List.mem_cons_self,.inl (by simpa using h)⟩
  ·by_cases hn:n < d
   ·rw [if_pos hn] at h
    exact ⟨n,List.mem_cons_self,.inr ⟨hn,h⟩⟩
   ·rw [if_neg hn] at h
    simp at h
  ·obtain ⟨m,hm,h2⟩:=ahI h
   exact ⟨m,List.mem_cons_of_mem _ hm,h2⟩
theorem Ye {T:List (List Nat × List Nat)} {B:List Nat} (hB:oF T B = true):∀ (fuel d:Nat),d < fuel→d < T.length→(B.getD d 0).testBit i = true→P5 T i fuel d = true
 |0,d,h,_,_=>by omega
 |fuel+1,d,h,hd,hb=>by
  have h1:=List.all_eq_true.1 hB d (List.mem_range.2 hd)
  cases hr:T[d]? with
  |none=>rw [hr] at h1;simp at h1
  |some r =>
   rw [hr] at h1
   simp only [beq_iff_eq] at h1
   have h2:(upM B d r.1).testBit i = true:=by rw [← h1,Nat.testBit_or,hb,Bool.true_or]
   obtain ⟨n,hn,h3⟩:=ahI h2
   unfold P5
   rw [hr]
   simp only
   rw [List.any_eq_true]
   refine ⟨n,hn,?_⟩
   rcases h3 with rfl|⟨h4,h5⟩
   ·simp
   ·rw [Ye hB fuel n (by omega) (by omega) h5,Bool.or_true]
def azz (T:List (List Nat × List Nat)) (B:List Nat) (l:List Bool) (ds:List Nat) (i:Nat):Bool:=ds.all fun d=>l.getD d true || (decide (d < T.length) && (B.getD d 0).testBit i)
def azA (T:Bool × List (List Nat × List Nat)) (B:List Nat) (ds:List Nat) (l l':List Bool) (i:Nat):Bool:=T.1 && acW T.2 l i && Dw T.2 l i && Sk T.2 l && azz T.2 B l ds i && (l.set i true == l')
theorem bL {B:List Nat} (hT:rX md ops = T) (hB:oF T.2 B = true) (h:azA T B ds l.toList l'.toList i = true):takeB md ops ds l l' i = true:=by
 refine asx hT ?_
 simp only [azA,an9,Bool.and_eq_true] at h ⊢
 obtain ⟨⟨⟨⟨⟨h1,h2⟩,h3⟩,h4⟩,h5⟩,h6⟩:=h
 refine ⟨⟨⟨⟨⟨h1,h2⟩,h3⟩,h4⟩,?_⟩,h6⟩
 unfold azz at h5
 unfold lastT
 rw [List.all_eq_true] at h5 ⊢
 intro d hd
 have h7:=h5 d hd
 rw [Bool.or_eq_true,Bool.and_eq_true,decide_eq_true_eq] at h7
 rcases h7 with h7|⟨h8,h9⟩
 ·rw [h7,Bool.true_or]
 ·rw [Ye hB _ d h8 h8 h9,Bool.or_true]
theorem jQ {P:Program} {Q:Exit→Act→ao→Prop} {S:ao→Prop} {n:Nat} {a:Act} {w:ao} {B:List Nat} (hT:rX md ops = T) (hB:oF T.2 B = true) (h:af (rX md ops = T)→af (oF T.2 B = true)→fD P md ops Q S ds n l a w):fD P md ops Q S ds n l a w:=h ⟨hT⟩ ⟨hB⟩
end
def Mg:Code→Nat→Option (Array Oper)
 |.region id ops _,k=>if id == k then some ops else none
 |.seq a b,k=>match Mg a k with
  |some o=>some o
  |none=>Mg b k
 |.cond _ a b,k=>match Mg a k with
  |some o=>some o
  |none=>Mg b k
 |.block _ c,k=>Mg c k
 |.loop c,k=>Mg c k
 |.scope c,k=>Mg c k
 |.rangeFunc _ _ a b,k=>match Mg a k with
  |some o=>some o
  |none=>Mg b k
 |_,_=>none
def opsOf (f:Func) (k:Nat):Array Oper:=((f.body.bind fun c=>Mg c k)).getD #[]
end Go.Proofs.YtmhaiihjfgfaoaaW.dB
end
section
namespace Go.Proofs.YtmhaiihjfgfaoaaW.dB
end Go.Proofs.YtmhaiihjfgfaoaaW.dB
end
section
namespace Go.Proofs.YtmhaiihjfgfaoaaW.bu
open Go.RowKit
namespace Kd
end Kd
namespace Kd
def tag {α:Type} (f:Nat→Nat) (d:Kd α):Kd (α × Nat) where
 sz:=d.sz
 E:=d.E
 K:=fun w x cs=>d.K w x.1 cs
 M:=fun w base ok x cs=>d.M w base (fun k=>ok k∧f k = x.2) x.1 cs
 zY:=fun h=>d.zY h
 zZ:=fun h=>d.zZ h
 p8:=fun hb h=>d.p8 hb h
 qh:=fun h=>d.qh h
 mI:=fun hok h=>d.mI (fun k hk=>⟨hok k hk.1,hk.2⟩) h
 oh:=fun h=>d.mI (fun _ hk=>⟨⟨hk.1.1,hk.2⟩,hk.1.2⟩) (d.oh h)
 qM:=fun hm h=>d.qM (fun k hk=>hm k hk.1) h
 p9:=fun hb h=>d.p9 hb h
def bare {α:Type} (d:Kd α):Kd α where
 sz:=d.sz
 E:=d.E
 K:=d.K
 M:=fun w base _ x cs=>d.M w base (fun _=>False) x cs
 zY:=fun h=>d.zY h
 zZ:=fun h=>d.zZ h
 p8:=fun hb h=>d.p8 hb h
 qh:=fun h=>d.qh h
 mI:=fun _ h=>h
 oh:=fun h=>h
 qM:=fun _ h=>d.qM (fun _ hk=>hk.elim) h
 p9:=fun hb h=>d.p9 hb h
def raw (sz:Nat):Kd (List Value) where
 sz:=sz
 E:=[]
 K:=fun _ x cs=>cs = x∧cs.length = sz∧∀ u ∈ cs,u.oneCell' = true
 M:=fun _ _ _ x cs=>cs = x∧cs.length = sz∧∀ u ∈ cs,u.oneCell' = true
 zY:=fun h=>h.2.1
 zZ:=fun h=>h.2.2
 p8:=fun _ h=>h
 qh:=fun h=>h
 mI:=fun _ h=>h
 oh:=fun h=>h
 qM:=fun _ h=>h
 p9:=fun _ h=>h
def S {α:Type} (d:Kd α) (e:Nat) (w:ao) (base:Nat) (ok:Nat→Prop) (v:Value) (xs:List α):Prop:=∃ f,(tag f d).R e w base ok v xs.zipIdx
section
variable {α β:Type} {d:Kd α} {d':Kd β} {e e':Nat} {w w1 W:ao} {base b:Nat} {ok ok' okv oku:Nat→Prop} {u v:Value} {xs:List α} {ys:List β}
theorem aBL {xs:List α} {j:Nat} {p:α} (h:xs[j]? = some p):xs.zipIdx[j]? = some (p,j):=by rw [List.getElem?_zipIdx,h,Nat.zero_add];rfl
theorem S_R (h:S d e w base ok v xs):d.R e w base ok v xs:=by
 obtain ⟨f,h0,inner,ho,hr⟩:=h
 rw [List.length_zipIdx] at ho
 exact ⟨h0,inner,ho,by have:=hr.1;rw [List.length_zipIdx] at this;exact this,fun j p hj=>d.mI (fun _ hk=>hk.1) (hr.2 j (p,j) (aBL hj))⟩
theorem aBM {ad:Addr} {n cap:Nat} (h:d.R e w base ok (.slice (some ad) n cap) xs):∃ g,ad = ⟨g,0,none⟩:=by
 obtain ⟨_,inner,ho,hr⟩:=h
 rcases ho.2 with ⟨hv,_⟩|⟨g,cap',cur,hv,_⟩
 ·cases hv
 ·injection hv with ha _ _
  injection ha with ha
  exact ⟨g,ha⟩
theorem aBN {ad:Addr} {n cap:Nat} (h:d.R e W base ok (.slice (some ad) n cap) xs) (z:α) (i:Int) (h0:0≤i) (h1:i < n):
 ∃ c,c.length = d.sz∧d.M W base (fun k=>ok k∧some k≠(Value.slice (some ad) n cap).ownBlock) (xs.getD i.toNat z) c∧∀ j u,c[j]? = some u→W.cell? (ad.add (i.toNat*d.sz+j)) = some u:=by
 obtain ⟨g,rfl⟩:=aBM h
 obtain ⟨c,hcl,hM,hcc,_⟩:=aBJ h z i h0 h1
 refine ⟨c,hcl,d.mI (fun k hk=>⟨hk.1,fun he=>hk.2 (by simpa [Value.ownBlock] using he)⟩) hM,fun j u hu=>?_⟩
 rw [aBI,Nat.zero_add]
 exact hcc j u hu
theorem asy (hE:d.E = []) (h:d.R e w base ok v xs):d.R e w base (fun k=>some k = v.ownBlock) v xs:=by
 obtain ⟨h0,inner,ho,hr⟩:=h
 refine ⟨fun k hk=>hk.symm,inner,ho,hr.Mv (fun p c hp=>d.mI (fun k hk=>?_) (d.oh hp))⟩
 obtain ⟨_,_,_,q,hq,_⟩:=hk
 rw [hE] at hq
 cases hq
theorem azB (d:Kd α) (e:Nat) (w:ao) (base:Nat) (ok:Nat→Prop):S d e w base ok (.slice none 0 0) []:=⟨fun _=>0,Na _ _ _ _ _⟩
theorem P6 (h:S d e w base ok v xs) (hok:∀ k,ok k→ok' k):S d e w base ok' v xs:=by
 obtain ⟨f,h⟩:=h
 exact ⟨f,jX h hok⟩
theorem asz (h:S d e w base ok v xs):S d e w base (fun k=>ok k∧base≤k∧k < w.heap.size∧∃ q,q ∈ e :: d.E∧∃ cells,w.heap[k]? = some (.cells cells q (0,0))) v xs:=by
 obtain ⟨f,h⟩:=h
 exact ⟨f,uM h⟩
theorem aBO (h:S d e w base ok v xs) (hm:∀ k,ok k→w1.heap[k]? = w.heap[k]?):S d e w1 base ok v xs:=by
 obtain ⟨f,h⟩:=h
 exact ⟨f,PU h hm⟩
theorem ahJ {base':Nat} (h:S d e w base ok v xs) (hb:base'≤base):S d e w base' ok v xs:=by
 obtain ⟨f,h⟩:=h
 exact ⟨f,kv h hb⟩
theorem aBP (h:S d e w base ok v xs) (hm:∀ k,ok k→k < w.heap.size→w1.heap[k]? = w.heap[k]?):S d e w1 base ok v xs :=
 P6 (aBO (asz h) (fun k hk=>hm k hk.1 hk.2.2.1)) (fun _ hk=>hk.1)
theorem AX (h:S d e w base ok v xs) (hb:Below w.heap.size w w1):S d e w1 base ok v xs:=aBP h (fun k _ hk=>hb.block k hk)
theorem Sl (h:S d e w base ok v xs):∀ k,v.ownBlock = some k→∃ cells,w.heap[k]? = some (.cells cells e (0,0)):=ahH (S_R h)
theorem aWk (h:S d e w base ok v xs):∀ k,v.ownBlock = some k→k < w.heap.size:=af9 (S_R h)
theorem acZ (h:S d e W base ok u xs) (hbase:∀ k,v.ownBlock = some k→W.heap.size≤k) (hb:Below W.heap.size W w1):S d e w1 base (fun k=>ok k∧some k≠v.ownBlock) u xs:=by
 obtain ⟨f,h⟩:=h
 exact ⟨f,Js h hbase hb⟩
theorem Ng {v1:Value} (h:S d e W base (fun k=>ok k∧some k≠v.ownBlock) u xs) (hg:W.grownBy w1 v.ownBlock) (hat:v1.ownBlock = v.ownBlock∨∃ b,v1.ownBlock = some b∧W.heap.size≤b):S d e w1 base (fun k=>ok k∧some k≠v1.ownBlock) u xs:=by
 obtain ⟨f,h⟩:=h
 exact ⟨f,Si h hg hat⟩
theorem aBQ (h:(bare d).R e w base ok v xs):S d e w base ok v xs:=by
 obtain ⟨h0,inner,ho,hr⟩:=h
 refine ⟨fun _=>0,h0,inner,by rw [List.length_zipIdx];exact ho,by rw [List.length_zipIdx];exact hr.1,fun j p hj=>?_⟩
 rw [List.getElem?_zipIdx,Nat.zero_add] at hj
 obtain ⟨x,hx,rfl⟩:=Option.map_eq_some_iff.1 hj
 exact d.mI (fun _ hk=>hk.elim) (hr.2 j x hx)
theorem aE1 {f f':Nat→Nat} {zs:List (α × Nat)} (h:(tag f d).R e w base ok v zs) (hf:∀ k,ok k→k < w.heap.size→f' k = f k):(tag f' d).R e w base ok v zs:=by
 obtain ⟨h0,inner,ho,hr⟩:=uM h
 exact ⟨fun k hk=>(h0 k hk).1,inner,ho,hr.1,fun j p hj=>d.mI (fun k hk=>⟨⟨hk.1.1.1,hk.1.2⟩,(hf k hk.1.1.1 hk.1.1.2.2.1).trans hk.2⟩) (hr.2 j p hj)⟩
end
section
variable {α β:Type} {d:Kd α} {d':Kd β} {e e' g:Nat} {w w1 W:ao} {base b:Nat} {ok ok' okv oku:Nat→Prop} {u v:Value} {xs:List α} {ys:List β}
theorem Zg (h:S d e w base ok v xs):∃ A c,v = .slice A xs.length c:=lM (S_R h)
theorem Vp {A:Option Addr} {n c:Nat} (h:S d e w base ok (.slice A n c) xs):n = xs.length∧n≤c∧d.C w A xs.length xs:=fK (S_R h)
theorem azC {ad:Addr} {n cap:Nat} (h:S d e W base ok (.slice (some ad) n cap) xs) (z:α) (i:Int) (h0:0≤i) (h1:i < n):
 ∃ c,c.length = d.sz∧d.M W base (fun k=>ok k∧some k≠(Value.slice (some ad) n cap).ownBlock) (xs.getD i.toNat z) c∧∀ j u,c[j]? = some u→W.cell? (ad.add (i.toNat*d.sz+j)) = some u:=aBN (S_R h) z i h0 h1
theorem aoa (xs:List α) (p:α):(xs++[p]).zipIdx = xs.zipIdx++[(p,xs.length)]:=by rw [List.zipIdx_append];simp
end
section
open Classical in
theorem aE2 {α:Type} {d:Kd α} {e base:Nat} {okv:Nat→Prop} {w:ao} {v:Value} {xs:List α} (h:S d e w base okv v xs) (m:Nat) (okp:Nat→Prop) (hap:∀ k,okp k→¬ okv k):∃ f,(∀ k,okp k→f k = m)∧(tag f d).R e w base okv v xs.zipIdx:=by
 obtain ⟨f,h⟩:=h
 exact ⟨fun k=>if okp k then m else f k,fun k hk=>if_pos hk,aE1 h (fun k hk _=>if_neg (fun h2=>hap k h2 hk))⟩
variable {P:Program} {ops:Array Oper} {rest:List Oper} {o:Oper} {a:Act} {Q:Exit→Act→ao→Prop} {Kc:Act→ao→Prop} {α:Type}
theorem aob (d:Kd α) {w0 W:ao} (base:Nat) (hgd:o.guard = none) (s x:Operand) (t e:TypeId) (z:Value) (bytes:Nat)
 (ho:o.op = .call { callee:=.builtin .append,args:=#[s,x],argTypes:=#[t,t] })
 (ht:P.underlying t = some (.slice e)) (hinfo:(P.info? e).map (fun i=>(i.zero,i.size,i.bytes)) = some (some z,d.sz,bytes)) (hz:z.cells.size = d.sz) (hs0:0 < d.sz) (hb0:0 < bytes)
 (v:Value) (xs:List α) (p:α) (cs:List Value) (ok okp:Nat→Prop) (hs:a.eval s = v) (hx:a.eval x = .slice (some ⟨W.heap.size,0,none⟩) 1 1) (hp:d.M W base okp p cs) (af8:∀ k,okp k→ok k∧some k≠v.ownBlock) (hfresh:∀ k,W.heap.size≤k→ok k)
 (HO:S d e W base (fun k=>ok k∧¬ okp k) v xs) (HB:Below base w0 W) (hbase:base≤W.heap.size) (hl:(xs.length+1)*bytes≤140737488355328)
 (h:∀ v1 w1,S d e w1 base ok v1 (xs++[p])→Below base w0 w1→W.grownBy w1 v.ownBlock→(v1.ownBlock = v.ownBlock∨∃ b,v1.ownBlock = some b∧W.heap.size≤b)→wpList P ops Q rest (a.put o.dst v1) w1):
 wpList P ops Q (o :: rest) a (W.alloc (.cells cs.toArray e)):=by
 obtain ⟨f,hf,hR⟩:=aE2 HO xs.length okp (fun _ hk h2=>h2.2 hk)
 refine Cg (tag f d) base hgd s x t e z bytes ho ht hinfo hz hs0 hb0 v xs.zipIdx (p,xs.length) cs ok okp hs hx (d.mI (fun k hk=>⟨hk,hf k hk⟩) hp) af8 hfresh (jX hR (fun _ hk=>hk.1)) HB hbase (by rw [List.length_zipIdx];exact hl) ?_
 intro v1 w1 hr
 rw [← aoa] at hr
 exact h v1 w1 ⟨f,hr⟩
theorem aE3 (d:Kd α) {w0 W:ao} (base e:Nat) (hgd:o.guard = none) {N:Tmp} (_hd:o.dst = some N) {xs:List α} {inner:List Value} {ok okp:Nat→Prop}
 (hrun:(execOp a.eval o).run P W = .ok (.value (.slice (some ⟨W.heap.size,0,none⟩) xs.length xs.length)) (W.alloc (.cells inner.toArray e)))
 (hrep:lV (d.M W base (fun _=>False)) d.sz xs inner) (_hok:∀ k,okp k→ok k) (hfresh:ok W.heap.size) (HB:Below base w0 W) (hbase:base≤W.heap.size) (hm:xs.length≤9223372036854775807)
 (h:∀ v1 w1,S d e w1 base ok v1 xs→Below base w0 w1→W.grownBy w1 none→(∃ b,v1.ownBlock = some b∧W.heap.size≤b)→wpList P ops Q rest (a.put o.dst v1) w1):wpList P ops Q (o :: rest) a W :=
 z8 (bare d) base e hgd _hd (ok:=ok) (okp:=ok) hrun hrep (fun _ hk=>hk) hfresh HB hbase hm (fun v1 w1 hr=>h v1 w1 (aBQ hr))
end
def gap {α:Type} (f:Nat→Nat) (d:Kd α) (i:Nat) (c:List Value):Kd (α × Nat) where
 sz:=d.sz
 E:=d.E
 K:=fun w x cs=>(x.2 = i→cs = c∧cs.length = d.sz∧∀ u ∈ cs,u.oneCell' = true)∧(x.2≠i→d.K w x.1 cs)
 M:=fun w base ok x cs=>(x.2 = i→cs = c∧cs.length = d.sz∧∀ u ∈ cs,u.oneCell' = true)∧(x.2≠i→d.M w base (fun k=>ok k∧f k = x.2) x.1 cs)
 zY:=fun {w x cs} h=>by
  by_cases hx:x.2 = i
  ·exact (h.1 hx).2.1
  ·exact d.zY (h.2 hx)
 zZ:=fun {w x cs} h=>by
  by_cases hx:x.2 = i
  ·exact (h.1 hx).2.2
  ·exact d.zZ (h.2 hx)
 p8:=fun hb h=>⟨h.1,fun hx=>d.p8 hb (h.2 hx)⟩
 qh:=fun h=>⟨h.1,fun hx=>d.qh (h.2 hx)⟩
 mI:=fun hok h=>⟨h.1,fun hx=>d.mI (fun k hk=>⟨hok k hk.1,hk.2⟩) (h.2 hx)⟩
 oh:=fun h=>⟨h.1,fun hx=>d.mI (fun _ hk=>⟨⟨hk.1.1,hk.2⟩,hk.1.2⟩) (d.oh (h.2 hx))⟩
 qM:=fun hm h=>⟨h.1,fun hx=>d.qM (fun k hk=>hm k hk.1) (h.2 hx)⟩
 p9:=fun hb h=>⟨h.1,fun hx=>d.p9 hb (h.2 hx)⟩
def H {α:Type} (d:Kd α) (e:Nat) (w:ao) (base:Nat) (ok:Nat→Prop) (v:Value) (xs:List α) (i:Int) (oki:Nat→Prop) (c:List Value):Prop :=
 (∀ k,oki k→ok k)∧∃ f,(gap f d i.toNat c).R e w base (fun k=>ok k∧¬ oki k) v xs.zipIdx
end Kd
end Go.Proofs.YtmhaiihjfgfaoaaW.bu
end
section
namespace Go.Proofs.YtmhaiihjfgfaoaaW.bu
open Go.RowKit
namespace Kd
end Kd
namespace Kd
end Kd
namespace Kd
end Kd
namespace Kd
end Kd
def ac0 (P:ao→Prop) (W:ao) (ok:Nat→Prop):Prop:=∀ W':ao,(∀ k,ok k→k < W.heap.size→W'.heap[k]? = W.heap[k]?)→P W'
theorem asA {W W1:ao} {k:Nat} (h:W1.heap[k]? = W.heap[k]?) (hlt:k < W.heap.size):k < W1.heap.size:=by
 rw [Array.getElem?_eq_getElem hlt] at h
 exact (Array.getElem?_eq_some_iff.1 h).1
namespace ac0
variable {P Q:ao→Prop} {W W1:ao} {ok ok':Nat→Prop}
theorem mono (h:ac0 P W ok) (hok:∀ k,ok k→ok' k):ac0 P W ok':=fun W' hW=>h W' (fun k hk hlt=>hW k (hok k hk) hlt)
theorem step (h:ac0 P W ok) (hm:∀ k,ok k→k < W.heap.size→W1.heap[k]? = W.heap[k]?):ac0 P W1 ok:=fun W' hW=>h W' (fun k hk hlt=>(hW k hk (asA (hm k hk hlt) hlt)).trans (hm k hk hlt))
end ac0
namespace Kd
def F {α:Type} (d:Kd α) (W:ao) (ok:Nat→Prop) (A:Option Addr) (n:Nat) (xs:List α):Prop:=ac0 (fun W=>d.C W A n xs) W ok
def FK {α:Type} (d:Kd α) (W:ao) (ok:Nat→Prop) (x:α) (c:List Value):Prop:=ac0 (fun W=>d.K W x c) W ok
end Kd
end Go.Proofs.YtmhaiihjfgfaoaaW.bu
end
section
namespace Go.Proofs.YtmhaiihjfgfaoaaW.bu
open Go.RowKit
namespace Kd
section
variable {α:Type} {d:Kd α} {e base n cc g:Nat} {ok ok' okp S:Nat→Prop} {w w1 W W1:ao} {A:Option Addr} {u v v1:Value} {xs:List α} {x:α} {c:List Value}
def N {α:Type} (d:Kd α) (e:Nat) (w:ao) (base:Nat) (ok:Nat→Prop) (v:Value) (xs:List α):Prop :=
 (∀ k,v.ownBlock = some k→ok k)∧∃ rows:List (List Value),rows.length = xs.length∧(raw d.sz).R e w base (fun k=>some k = v.ownBlock) v rows∧∀ (j:Nat) (x:α) (c:List Value),xs[j]? = some x→rows[j]? = some c→FK d w (fun k=>ok k∧some k≠v.ownBlock) x c
end
end Kd
end Go.Proofs.YtmhaiihjfgfaoaaW.bu
end
section
namespace Go.Proofs.YtmhaiihjfgfaoaaW.bu
open Go.RowKit
namespace Kd
end Kd
namespace Kd
end Kd
section
variable {P:Program} {d:Nat} {xs ys:Array Value} {f:Field} {fs:List Field} {a b:Value} {r s:Bool} {w:ao}
theorem Vq (hn:(f.name == "_") = false) (ha:(part f.type xs f.offset).run P w = .ok a w) (hb:(part f.type ys f.offset).run P w = .ok b w) (he:(Op.equalIn d f.type a b).run P w = .ok r w):(Op.eqFields d xs ys [f]).run P w = .ok r w:=by
 have hn':f.name≠"_":=by simpa using hn
 simp only [Op.eqFields,if_pos hn',Sem.run_bind,ha,hb,he,Result.andThen_ok]
 cases r <;> simp
theorem Vr (hn:(f.name == "_") = false) (ha:(part f.type xs f.offset).run P w = .ok a w) (hb:(part f.type ys f.offset).run P w = .ok b w) (he:(Op.equalIn d f.type a b).run P w = .ok r w) (hr:(Op.eqFields d xs ys fs).run P w = .ok s w):(Op.eqFields d xs ys (f :: fs)).run P w = .ok (r && s) w:=by
 have hn':f.name≠"_":=by simpa using hn
 rw [Op.eqFields]
 simp only [if_pos hn',Sem.run_bind,ha,hb,he,Result.andThen_ok]
 cases r
 ·simp
 ·simpa using hr
theorem agc {t:TypeId} {fs:Array Field} (hu:P.underlying t = some (.struct fs)) (hp:P.stoodInHeld t = false) (h:(Op.eqFields d xs ys fs.toList).run P w = .ok r w):(Op.equalIn (d+1) t (.agg xs) (.agg ys)).run P w = .ok r w:=by
 have hf:P.fieldsOf t = fs:=by simp [Program.fieldsOf,hu]
 rw [run_equalIn_struct (P:=P) w d t xs ys (by rw [hf];exact hu) hp,hf]
 exact h
end
end Go.Proofs.YtmhaiihjfgfaoaaW.bu
end
section
namespace Go.Proofs.YtmhaiihjfgfaoaaW.bu
theorem lV.one {α:Type} {R:α→List Value→Prop} {ps:List α} {cs:List Value} {p:α} {v:Value} (hp:R p [v]) (h:lV R 1 ps cs):lV R 1 (p :: ps) (v :: cs):=by
 refine ⟨by simp [h.1],fun j q hq=>?_⟩
 cases j with
 |zero =>
  simp only [List.getElem?_cons_zero,Option.some.injEq] at hq
  subst hq
  simpa using hp
 |succ j =>
  simp only [List.getElem?_cons_succ] at hq
  have h1:=h.2 j q hq
  simpa [Nat.mul_one] using h1
theorem lV.front {α:Type} {R:α→List Value→Prop} {size:Nat} {ps:List α} {cs c all:List Value} {p:α} (hp:R p c) (hc:c.length = size) (h:lV R size ps cs) (ha:c++cs = all):lV R size (p :: ps) all:=by
 subst ha
 refine ⟨by rw [List.length_append,hc,h.1,List.length_cons,Nat.succ_mul,Nat.add_comm],fun j q hq=>?_⟩
 cases j with
 |zero =>
  simp only [List.getElem?_cons_zero,Option.some.injEq] at hq
  subst hq
  rw [Nat.zero_mul,List.drop_zero,List.take_append_of_le_length (by omega),List.take_of_length_le (by omega)]
  exact hp
 |succ j =>
  simp only [List.getElem?_cons_succ] at hq
  have h1:=h.2 j q hq
  rw [Nat.succ_mul,List.drop_append,List.drop_of_length_le (by rw [hc];exact Nat.le_add_left _ _),List.nil_append,hc,Nat.add_sub_cancel]
  exact h1
theorem lV.c2 {α:Type} {R:α→List Value→Prop} {ps:List α} {cs:List Value} {p:α} {va vb:Value} (hp:R p [va,vb]) (h:lV R 2 ps cs):lV R 2 (p :: ps) (va :: vb :: cs):=lV.front hp rfl h rfl
end Go.Proofs.YtmhaiihjfgfaoaaW.bu
end
section
namespace Go.Proofs.YtmhaiihjfgfaoaaW.dB
end Go.Proofs.YtmhaiihjfgfaoaaW.dB
end
section
namespace Go.Proofs.YtmhaiihjfgfaoaaW.bu
open Go.RowKit
end Go.Proofs.YtmhaiihjfgfaoaaW.bu
namespace Go.Proofs.YtmhaiihjfgfaoaaW.dB
end Go.Proofs.YtmhaiihjfgfaoaaW.dB
end
section
namespace Go.Proofs.YtmhaiihjfgfaoaaW.bu
open Go.RowKit
section
variable {P:Program} {ops:Array Oper} {rest:List Oper} {o:Oper} {a:Act} {Q:Exit→Act→ao→Prop} {W:ao}
theorem pU (hw:Region.wanted o (yielded ops a.tmps) = true) (h:wpList P ops Q ({ o with guard:=none } :: rest) a W):wpList P ops Q (o :: rest) a W:=by
 have h1:Region.wanted { o with guard:=none } (yielded ops a.tmps) = true:=rfl
 unfold wpList at h ⊢
 rw [if_pos h1] at h
 rw [if_pos hw]
 exact h
end
end Go.Proofs.YtmhaiihjfgfaoaaW.bu
end
section
namespace Go.Proofs.YtmhaiihjfgfaoaaW.bu
open Go.RowKit
namespace Kd
end Kd
end Go.Proofs.YtmhaiihjfgfaoaaW.bu
end
section
namespace Go.Proofs.YtmhaiihjfgfaoaaW.ek
open Go.RowKit Go.Proofs.YtmhaiihjfgfaoaaW.bu
namespace Kd
open Go.Proofs.YtmhaiihjfgfaoaaW.bu.Kd
end Kd
namespace Kd
open Go.Proofs.YtmhaiihjfgfaoaaW.bu.Kd
end Kd
theorem iq (k k':IntKind) (x y:Int):Builtin.max2 (.int k x) (.int k' y) = pure (.int k (if x < y then y else x)):=by simp only [Builtin.max2,gt_iff_lt]
theorem iw (k k':IntKind) (x y:Int):Builtin.min2 (.int k x) (.int k' y) = pure (.int k (if y < x then y else x)):=by simp only [Builtin.min2]
theorem jq (ats:Array TypeId) (ty:TypeId) (a b:Value):Builtin.max_ ats ty #[a,b] = (Builtin.max2 a b >>= fun s=>pure s):=by simp only [Builtin.max_,List.foldlM_cons,List.foldlM_nil]
theorem jr (ats:Array TypeId) (ty:TypeId) (a b:Value):Builtin.min_ ats ty #[a,b] = (Builtin.min2 a b >>= fun s=>pure s):=by simp only [Builtin.min_,List.foldlM_cons,List.foldlM_nil]
theorem iy (ats:Array TypeId) (ty:TypeId) (a b c d:Value):Builtin.max_ ats ty #[a,b,c,d] = (Builtin.max2 a b >>= fun s=>Builtin.max2 s c >>= fun s=>Builtin.max2 s d >>= fun s=>pure s):=by simp only [Builtin.max_,List.foldlM_cons,List.foldlM_nil]
end Go.Proofs.YtmhaiihjfgfaoaaW.ek
namespace Go.Proofs.YtmhaiihjfgfaoaaW.bu
open Go.RowKit
section
variable {P:Program} {ops:Array Oper} {rest:List Oper} {o:Oper} {a:Act} {Q:Exit→Act→ao→Prop} {W:ao}
theorem aU {f:FuncId} {as_:Array Operand} {ts:Array TypeId} (_ho:o.op = .call { callee:=.value (.func f),args:=as_,argTypes:=ts }) (h:wpList P ops Q (o :: rest) a W):wpList P ops Q (o :: rest) a W:=h
theorem pz {b:Builtin} {xs:Array Operand} {ts:Array TypeId} (_ho:o.op = .call { callee:=.builtin b,args:=xs,argTypes:=ts }) (h:wpList P ops Q (o :: rest) a W):wpList P ops Q (o :: rest) a W:=h
end
def mx (a b:Int):Int:=if a < b then b else a
def mn (a b:Int):Int:=if b < a then b else a
theorem agd (w:ao) (n:Nat):w.drewN n = w.drewN n:=rfl
namespace Kd
end Kd
end Go.Proofs.YtmhaiihjfgfaoaaW.bu
namespace Go.Proofs.YtmhaiihjfgfaoaaW.bu
open Go.RowKit
namespace Kd
def V {α:Type} (d:Kd α) (_e:Nat) (W:ao) (_base:Nat) (ok:Nat→Prop) (v:Value) (xs:List α):Prop:=∃ A c,v = .slice A xs.length c∧xs.length≤c∧F d W ok A xs.length xs
end Kd
end Go.Proofs.YtmhaiihjfgfaoaaW.bu
end
section
namespace Go.Proofs.YtmhaiihjfgfaoaaW.ek
open Go.RowKit Go.Proofs.YtmhaiihjfgfaoaaW.bu Go.Proofs.YtmhaiihjfgfaoaaW.dB
theorem bn {W0 W W1:ao} {g:Nat} {o:Obj} (h:af (W0.heap[g]? = some o)) (hb:Below W.heap.size W W1) (h2:W.heap[g]? = some o:=by (repeat first|(with_reducible first|refine au ?_ _|refine ag ?_|refine aa ?_ _)|refine aM ?_ (af.out (by assumption)) _);exact af.out (by assumption)):af (W1.heap[g]? = some o):=⟨ah h2 hb⟩
theorem dz {w W0 W W1:ao} (h:af (Below w.heap.size w W0)) (hb:Below W.heap.size W W1) (h2:Below w.heap.size w W:=by repeat (first|(with_reducible first|exact af.out (by assumption)|apply aH|apply ng|apply bF|refine PX ?_ (af.out (by assumption)))|exact af.out (by assumption))):af (Below w.heap.size w W1):=⟨bI h2 hb⟩
theorem bY {w W0 W:ao} {g:Nat} (h:af (Below w.heap.size w W0)) (hg:g = W.heap.size) (h2:Below w.heap.size w W:=by repeat (first|(with_reducible first|exact af.out (by assumption)|apply aH|apply ng|apply bF|refine PX ?_ (af.out (by assumption)))|exact af.out (by assumption))):af (w.heap.size≤g):=⟨by rw [hg];exact fM h2⟩
theorem fG {W0 W:ao} {g g1:Nat} {o:Obj} (h:af (W0.heap[g]? = some o)) (hg:g1 = W.heap.size) (h2:W.heap[g]? = some o:=by (repeat first|(with_reducible first|refine au ?_ _|refine ag ?_|refine aa ?_ _)|refine aM ?_ (af.out (by assumption)) _);exact af.out (by assumption)):af (g≠g1):=⟨by rw [hg];exact Nat.ne_of_lt (bO h2)⟩
theorem fH {W0 W:ao} {g g1:Nat} {o:Obj} (h:af (W0.heap[g]? = some o)) (hg:g1 = W.heap.size) (h2:W.heap[g]? = some o:=by (repeat first|(with_reducible first|refine au ?_ _|refine ag ?_|refine aa ?_ _)|refine aM ?_ (af.out (by assumption)) _);exact af.out (by assumption)):af (g1≠g):=⟨by rw [hg];exact Nat.ne_of_gt (bO h2)⟩
theorem gp {p:Prop} (h:p:=by repeat (first|(with_reducible first|exact af.out (by assumption)|apply aH|apply ng|apply bF|refine PX ?_ (af.out (by assumption)))|exact af.out (by assumption))):p:=h
theorem dI {W:ao} {x g i j:Nat} {v:Value} {q:Option Value} (h:af (x≠g)) (e:W.cell? ⟨x,j,none⟩ = q):(W.setCell ⟨g,i,none⟩ v).cell? ⟨x,j,none⟩ = q:=(cell_far (p:=⟨g,_,none⟩) h.out _).trans e
theorem bH {W:ao} {b:Nat} {cs:Array Value} {t:TypeId} (h:af (W.heap[b]? = some (.cells cs t (0,0)))) (k:Nat) {v:Value} (e:cs[k]? = some v:=by rfl):W.cell? ⟨b,k,none⟩ = some v:=(ae h.out k).trans e
theorem nI {w W:ao} {p:Addr} {v:Value} (h:af (Below w.heap.size w W)) (e:w.cell? p = some v):W.cell? p = some v:=(h.out.cell (bd w _ e)).trans e
theorem iK {p:Prop} (h:p:=by (repeat first|(with_reducible first|refine au ?_ _|refine ag ?_|refine aa ?_ _)|refine aM ?_ (af.out (by assumption)) _);exact af.out (by assumption)):p:=h
theorem wh {α:Type} {d:Kd α} {e base:Nat} {ok:Nat→Prop} {v:Value} {xs:List α} {W0 W W1:ao} (h:af (d.R e W0 base ok v xs)) (hb:Below W.heap.size W W1) (h2:d.R e W base ok v xs:=by (with_reducible repeat (first|apply Kd.ky|apply Kd.jY|apply Kd.jP));exact af.out (by assumption)):af (d.R e W1 base ok v xs):=⟨Kd.lZ h2 hb⟩
theorem dR {P:Program} {ops:Array Oper} {Q:Exit→Act→ao→Prop} {S:ao→Prop} {ds:List Nat} {md:Region.Mode} (i:Nat) (N:Option Tmp) {oi:Oper} {v:Value} {fuel:Nat} {l l':Array Bool} {a:Act} {w:ao} (hc:an8 md ops l l' i = true) {a':Act}
 (h:fD P md ops Q S ds fuel l' a' w) (hl:l.setIfInBounds i true = l':=by simp only [ap,aq,ar];rfl) (hi:ops[i]? = some oi:=by rfl) (hN:oi.dst = N:=by rfl) (hw:Region.wanted oi (yielded ops a.tmps) = true:=by rfl)
 (hy:∀ w,(execOp a.eval oi).run P w = .ok (.value v) w:=by intro w';go_simp;with_reducible rfl) (ha:a.put N v = a':=by simp only [Act.put,ap,aq,ar,eY,fo];rfl) (hQ:∀ c a w,Q (.panic c) (a.put oi.dst v) w→Q (.panic c) a w:=by exact fun _ _ _ h=>h):fD P md ops Q S ds (fuel+1) l a w:=j6 l' hi hN hc hQ (Or.inl ⟨hw,hy⟩) ha h
theorem iT {P:Program} {ops:Array Oper} {Q:Exit→Act→ao→Prop} {S:ao→Prop} {ds:List Nat} {md:Region.Mode} (i:Nat) (N:Option Tmp) {oi:Oper} {v:Value} {fuel:Nat} {l l':Array Bool} {a:Act} {w:ao} (hc:takeB md ops ds l l' i = true) {a':Act}
 (hS:S w) (h:fD P md ops Q S ds fuel l' a' w) (hl:l.setIfInBounds i true = l':=by simp only [ap,aq,ar];rfl) (hi:ops[i]? = some oi:=by rfl) (hN:oi.dst = N:=by rfl) (hw:Region.wanted oi (yielded ops a.tmps) = true:=by rfl)
 (hy:∀ w,S w→(execOp a.eval oi).run P w = .ok (.value v) w:=by intro w' s_;repeat' obtain ⟨_,s_⟩:=s_;go_simp;with_reducible rfl) (ha:a.put N v = a':=by simp only [Act.put,ap,aq,ar,eY,fo];rfl) (hQ:∀ c a w,Q (.panic c) (a.put oi.dst v) w→Q (.panic c) a w:=by exact fun _ _ _ h=>h):fD P md ops Q S ds (fuel+1) l a w:=aEY l' hi hN hc hQ (Or.inl ⟨hw,hy⟩) hS ha h
theorem Ch {W:ao} {g:Nat} {x0 x1:Value} {T:TypeId} (h:W.heap[g]? = some (.cells #[x0,x1] T (0,0))):W.cell? ⟨g,0,none⟩ = some x0∧W.cell? ⟨g,1,none⟩ = some x1:=⟨(ae h 0).trans rfl,(ae h 1).trans rfl⟩
theorem iQ {W:ao} {g:Nat} {x0 x1:Value} {T:TypeId} (h:W.heap[g]? = some (.cells #[x0,x1] T (0,0))):W.cell? ⟨g,0,none⟩ = some x0∧W.cell? ⟨g,1,none⟩ = some x1∧W.frozen? ⟨g,0,none⟩ = false∧W.frozen? ⟨g,1,none⟩ = false:=⟨(ae h 0).trans rfl,(ae h 1).trans rfl,bg h 0,bg h 1⟩
theorem aoc {W:ao} {g:Nat} {x0 x1:Value} {T:TypeId} {q:Prop} (h:W.heap[g]? = some (.cells #[x0,x1] T (0,0))) (r:q):W.cell? ⟨g,0,none⟩ = some x0∧W.cell? ⟨g,1,none⟩ = some x1∧q:=⟨(ae h 0).trans rfl,(ae h 1).trans rfl,r⟩
theorem rY {W:ao} {g:Nat} {x0 x1 x2 x3:Value} {T:TypeId} (h:W.heap[g]? = some (.cells #[x0,x1,x2,x3] T (0,0))):W.cell? ⟨g,0,none⟩ = some x0∧W.cell? ⟨g,1,none⟩ = some x1∧W.cell? ⟨g,2,none⟩ = some x2∧W.cell? ⟨g,3,none⟩ = some x3:=⟨(ae h 0).trans rfl,(ae h 1).trans rfl,(ae h 2).trans rfl,(ae h 3).trans rfl⟩
theorem asC {W:ao} {g:Nat} {x0 x1 x2 x3:Value} {T:TypeId} (h:W.heap[g]? = some (.cells #[x0,x1,x2,x3] T (0,0))):W.frozen? ⟨g,0,none⟩ = false∧W.frozen? ⟨g,1,none⟩ = false∧W.frozen? ⟨g,2,none⟩ = false∧W.frozen? ⟨g,3,none⟩ = false:=⟨bg h 0,bg h 1,bg h 2,bg h 3⟩
theorem jA {W:ao} {g:Nat} {x0 x1 x2 x3:Value} {T:TypeId} (h:W.heap[g]? = some (.cells #[x0,x1,x2,x3] T (0,0))):W.cell? ⟨g,0,none⟩ = some x0∧W.cell? ⟨g,1,none⟩ = some x1∧W.cell? ⟨g,2,none⟩ = some x2∧W.cell? ⟨g,3,none⟩ = some x3∧W.frozen? ⟨g,0,none⟩ = false∧W.frozen? ⟨g,1,none⟩ = false∧W.frozen? ⟨g,2,none⟩ = false∧W.frozen? ⟨g,3,none⟩ = false:=⟨(ae h 0).trans rfl,(ae h 1).trans rfl,(ae h 2).trans rfl,(ae h 3).trans rfl,bg h 0,bg h 1,bg h 2,bg h 3⟩
theorem Jk {W:ao} {g:Nat} {x0 x1 x2 x3:Value} {T:TypeId} {q:Prop} (h:W.heap[g]? = some (.cells #[x0,x1,x2,x3] T (0,0))) (r:q):W.cell? ⟨g,0,none⟩ = some x0∧W.cell? ⟨g,1,none⟩ = some x1∧W.cell? ⟨g,2,none⟩ = some x2∧W.cell? ⟨g,3,none⟩ = some x3∧q:=⟨(ae h 0).trans rfl,(ae h 1).trans rfl,(ae h 2).trans rfl,(ae h 3).trans rfl,r⟩
theorem Xz {W:ao} {g:Nat} {x0 x1 x2 x3 x4 x5:Value} {T:TypeId} (h:W.heap[g]? = some (.cells #[x0,x1,x2,x3,x4,x5] T (0,0))):W.cell? ⟨g,0,none⟩ = some x0∧W.cell? ⟨g,1,none⟩ = some x1∧W.cell? ⟨g,2,none⟩ = some x2∧W.cell? ⟨g,3,none⟩ = some x3∧W.cell? ⟨g,4,none⟩ = some x4∧W.cell? ⟨g,5,none⟩ = some x5:=⟨(ae h 0).trans rfl,(ae h 1).trans rfl,(ae h 2).trans rfl,(ae h 3).trans rfl,(ae h 4).trans rfl,(ae h 5).trans rfl⟩
theorem Aa {W:ao} {g:Nat} {x0 x1 x2 x3 x4 x5:Value} {T:TypeId} (h:W.heap[g]? = some (.cells #[x0,x1,x2,x3,x4,x5] T (0,0))):W.cell? ⟨g,0,none⟩ = some x0∧W.cell? ⟨g,1,none⟩ = some x1∧W.cell? ⟨g,2,none⟩ = some x2∧W.cell? ⟨g,3,none⟩ = some x3∧W.cell? ⟨g,4,none⟩ = some x4∧W.cell? ⟨g,5,none⟩ = some x5∧W.frozen? ⟨g,0,none⟩ = false∧W.frozen? ⟨g,1,none⟩ = false∧W.frozen? ⟨g,2,none⟩ = false∧W.frozen? ⟨g,3,none⟩ = false∧W.frozen? ⟨g,4,none⟩ = false∧W.frozen? ⟨g,5,none⟩ = false:=⟨(ae h 0).trans rfl,(ae h 1).trans rfl,(ae h 2).trans rfl,(ae h 3).trans rfl,(ae h 4).trans rfl,(ae h 5).trans rfl,bg h 0,bg h 1,bg h 2,bg h 3,bg h 4,bg h 5⟩
theorem aE4 {W:ao} {g:Nat} {x0 x1 x2 x3 x4 x5:Value} {T:TypeId} {q:Prop} (h:W.heap[g]? = some (.cells #[x0,x1,x2,x3,x4,x5] T (0,0))) (r:q):W.cell? ⟨g,0,none⟩ = some x0∧W.cell? ⟨g,1,none⟩ = some x1∧W.cell? ⟨g,2,none⟩ = some x2∧W.cell? ⟨g,3,none⟩ = some x3∧W.cell? ⟨g,4,none⟩ = some x4∧W.cell? ⟨g,5,none⟩ = some x5∧q:=⟨(ae h 0).trans rfl,(ae h 1).trans rfl,(ae h 2).trans rfl,(ae h 3).trans rfl,(ae h 4).trans rfl,(ae h 5).trans rfl,r⟩
theorem Ci {W:ao} {g:Nat} {x0 x1 x2 x3 x4 x5 x6:Value} {T:TypeId} (h:W.heap[g]? = some (.cells #[x0,x1,x2,x3,x4,x5,x6] T (0,0))):W.cell? ⟨g,0,none⟩ = some x0∧W.cell? ⟨g,1,none⟩ = some x1∧W.cell? ⟨g,2,none⟩ = some x2∧W.cell? ⟨g,3,none⟩ = some x3∧W.cell? ⟨g,4,none⟩ = some x4∧W.cell? ⟨g,5,none⟩ = some x5∧W.cell? ⟨g,6,none⟩ = some x6:=⟨(ae h 0).trans rfl,(ae h 1).trans rfl,(ae h 2).trans rfl,(ae h 3).trans rfl,(ae h 4).trans rfl,(ae h 5).trans rfl,(ae h 6).trans rfl⟩
theorem kz {W:ao} {g:Nat} {x0 x1 x2 x3 x4 x5 x6:Value} {T:TypeId} (h:W.heap[g]? = some (.cells #[x0,x1,x2,x3,x4,x5,x6] T (0,0))):W.cell? ⟨g,0,none⟩ = some x0∧W.cell? ⟨g,1,none⟩ = some x1∧W.cell? ⟨g,2,none⟩ = some x2∧W.cell? ⟨g,3,none⟩ = some x3∧W.cell? ⟨g,4,none⟩ = some x4∧W.cell? ⟨g,5,none⟩ = some x5∧W.cell? ⟨g,6,none⟩ = some x6∧W.frozen? ⟨g,0,none⟩ = false∧W.frozen? ⟨g,1,none⟩ = false∧W.frozen? ⟨g,2,none⟩ = false∧W.frozen? ⟨g,3,none⟩ = false∧W.frozen? ⟨g,4,none⟩ = false∧W.frozen? ⟨g,5,none⟩ = false∧W.frozen? ⟨g,6,none⟩ = false:=⟨(ae h 0).trans rfl,(ae h 1).trans rfl,(ae h 2).trans rfl,(ae h 3).trans rfl,(ae h 4).trans rfl,(ae h 5).trans rfl,(ae h 6).trans rfl,bg h 0,bg h 1,bg h 2,bg h 3,bg h 4,bg h 5,bg h 6⟩
theorem Mx {W:ao} {g:Nat} {x0 x1 x2 x3 x4 x5 x6:Value} {T:TypeId} {q:Prop} (h:W.heap[g]? = some (.cells #[x0,x1,x2,x3,x4,x5,x6] T (0,0))) (r:q):W.cell? ⟨g,0,none⟩ = some x0∧W.cell? ⟨g,1,none⟩ = some x1∧W.cell? ⟨g,2,none⟩ = some x2∧W.cell? ⟨g,3,none⟩ = some x3∧W.cell? ⟨g,4,none⟩ = some x4∧W.cell? ⟨g,5,none⟩ = some x5∧W.cell? ⟨g,6,none⟩ = some x6∧q:=⟨(ae h 0).trans rfl,(ae h 1).trans rfl,(ae h 2).trans rfl,(ae h 3).trans rfl,(ae h 4).trans rfl,(ae h 5).trans rfl,(ae h 6).trans rfl,r⟩
theorem Ay {W:ao} {g:Nat} {x0 x1 x2 x3 x4 x5 x6 x7 x8:Value} {T:TypeId} (h:W.heap[g]? = some (.cells #[x0,x1,x2,x3,x4,x5,x6,x7,x8] T (0,0))):W.cell? ⟨g,0,none⟩ = some x0∧W.cell? ⟨g,1,none⟩ = some x1∧W.cell? ⟨g,2,none⟩ = some x2∧W.cell? ⟨g,3,none⟩ = some x3∧W.cell? ⟨g,4,none⟩ = some x4∧W.cell? ⟨g,5,none⟩ = some x5∧W.cell? ⟨g,6,none⟩ = some x6∧W.cell? ⟨g,7,none⟩ = some x7∧W.cell? ⟨g,8,none⟩ = some x8:=⟨(ae h 0).trans rfl,(ae h 1).trans rfl,(ae h 2).trans rfl,(ae h 3).trans rfl,(ae h 4).trans rfl,(ae h 5).trans rfl,(ae h 6).trans rfl,(ae h 7).trans rfl,(ae h 8).trans rfl⟩
theorem jS {W:ao} {g:Nat} {x0 x1 x2 x3 x4 x5 x6 x7 x8:Value} {T:TypeId} (h:W.heap[g]? = some (.cells #[x0,x1,x2,x3,x4,x5,x6,x7,x8] T (0,0))):W.cell? ⟨g,0,none⟩ = some x0∧W.cell? ⟨g,1,none⟩ = some x1∧W.cell? ⟨g,2,none⟩ = some x2∧W.cell? ⟨g,3,none⟩ = some x3∧W.cell? ⟨g,4,none⟩ = some x4∧W.cell? ⟨g,5,none⟩ = some x5∧W.cell? ⟨g,6,none⟩ = some x6∧W.cell? ⟨g,7,none⟩ = some x7∧W.cell? ⟨g,8,none⟩ = some x8∧W.frozen? ⟨g,0,none⟩ = false∧W.frozen? ⟨g,1,none⟩ = false∧W.frozen? ⟨g,2,none⟩ = false∧W.frozen? ⟨g,3,none⟩ = false∧W.frozen? ⟨g,4,none⟩ = false∧W.frozen? ⟨g,5,none⟩ = false∧W.frozen? ⟨g,6,none⟩ = false∧W.frozen? ⟨g,7,none⟩ = false∧W.frozen? ⟨g,8,none⟩ = false:=⟨(ae h 0).trans rfl,(ae h 1).trans rfl,(ae h 2).trans rfl,(ae h 3).trans rfl,(ae h 4).trans rfl,(ae h 5).trans rfl,(ae h 6).trans rfl,(ae h 7).trans rfl,(ae h 8).trans rfl,bg h 0,bg h 1,bg h 2,bg h 3,bg h 4,bg h 5,bg h 6,bg h 7,bg h 8⟩
theorem vk {W:ao} {g:Nat} {x0 x1 x2 x3 x4 x5 x6 x7 x8:Value} {T:TypeId} {q:Prop} (h:W.heap[g]? = some (.cells #[x0,x1,x2,x3,x4,x5,x6,x7,x8] T (0,0))) (r:q):W.cell? ⟨g,0,none⟩ = some x0∧W.cell? ⟨g,1,none⟩ = some x1∧W.cell? ⟨g,2,none⟩ = some x2∧W.cell? ⟨g,3,none⟩ = some x3∧W.cell? ⟨g,4,none⟩ = some x4∧W.cell? ⟨g,5,none⟩ = some x5∧W.cell? ⟨g,6,none⟩ = some x6∧W.cell? ⟨g,7,none⟩ = some x7∧W.cell? ⟨g,8,none⟩ = some x8∧q:=⟨(ae h 0).trans rfl,(ae h 1).trans rfl,(ae h 2).trans rfl,(ae h 3).trans rfl,(ae h 4).trans rfl,(ae h 5).trans rfl,(ae h 6).trans rfl,(ae h 7).trans rfl,(ae h 8).trans rfl,r⟩
theorem zq0 {p:Prop} (h:p:=by rw [← Fq _ _ 1 (by omega)];exact hc 1 _ rfl):p:=h
theorem aT {p:Prop} (h:p:=by kernel_rfl):p:=h
theorem om {p:Prop} (h:p:=by first|rfl|(simp;done)|(simp [*];done)):p:=h
theorem Xq {p:Prop} (h:p:=by repeat (first|exact su.refl _|apply su.step)):p:=h
theorem nM {p:Prop} (h:p:=by first|(with_reducible assumption)|assumption):p:=h
theorem fU {p:Prop} (h:p:=by first|(go_simp;done)|(go_simp;rfl)):p:=h
theorem mJ {p:Prop} (h:p:=by first|rfl|(simp [lg,lh] <;> rfl)|(simp [*,lg,lh] <;> rfl)):p:=h
theorem zq7 {p:Prop} (h:p:=by have:=Cj.out;omega):p:=h
theorem jB {p:Prop} (h:p:=by (try simp only [List.map_toArray,List.map_cons,List.map_nil]);first|done|rfl|(simp only [List.length_drop,List.length_take];rfl)):p:=h
theorem zq9 {p:Prop} (h:p:=by first|rfl|(simp [lg,lh] <;> rfl)|(simp only [← Jl];first|rfl|(simp [lg,lh] <;> rfl))|(simp [*,lg,lh] <;> rfl)):p:=h
theorem aod {p:Prop} (h:p:=by first|exact Kd.Na _ _ _ _ _|exact Kd.aE6 _ _ _ _ _|exact Kd.aE7 _ _ _ _ _|exact Kd.aE8 _ _ _ _ _|exact Kd.azB _ _ _ _ _):p:=h
theorem aE9 {p:Prop} (h:p:=by (with_reducible repeat (first|apply Kd.ky|apply Kd.jY|apply Kd.jP));exact ym.out):p:=h
theorem Jm {p:Prop} (h:p:=by rw [HR.out];rfl):p:=h
theorem Vs {p:Prop} (h:p:=by repeat (first|exact Below.refl _ _|apply aH|apply bF|apply ng)):p:=h
theorem Zh {p:Prop} (h:p:=by have h_:=eB w (.cells #[Z ab s.nx,Z ab s.ny,Z ab s.cell,Z ab s.slot,Z ab s.slots,Z ab s.layers,Z ab s.most,.slice A7 s.bf.length c7,.slice A8 s.aC.length c8] 25);first|exact h_|(simp only [World.size_alloc] at h_;exact h_)):p:=h
theorem qi {p:Prop} (h:p:=by rw [HZ.out];rfl):p:=h
theorem aFa {p:Prop} (h:p:=by have h_:=eB w (.cells #[Z ab a.f0,Z ab a.f1] 27);first|exact h_|(simp only [World.size_alloc] at h_;exact h_)):p:=h
theorem aFb {p:Prop} (h:p:=by show Act.put _ (some 9) _ = _;simp only [Act.put,ap,aq,ar,eY,fo];rfl):p:=h
theorem Ju {p:Prop} (h:p:=by simp only [List.map_toArray,List.map_cons,List.map_nil];rfl):p:=h
theorem aFc {p:Prop} (h:p:=by show Act.put _ (some 19) _ = _;simp only [Act.put,ap,aq,ar,eY,fo];rfl):p:=h
theorem aFd {p:Prop} (h:p:=by have h_:=eB w (.cells #[.pointer (some ⟨b,0,none⟩)] 104);first|exact h_|(simp only [World.size_alloc] at h_;exact h_)):p:=h
theorem aFe {p:Prop} (h:p:=by have h_:=eB (w.alloc (.cells #[.pointer (some ⟨b,0,none⟩)] 104)) (.cells #[Z ab x.f0.f0,Z ab x.f0.f1,Z ab x.f1.f0,Z ab x.f1.f1] 31);first|exact h_|(simp only [World.size_alloc] at h_;exact h_)):p:=h
theorem al8 {p:Prop} (h:p:=by show Act.put _ (some 16) _ = _;simp only [Act.put,ap,aq,ar,eY,fo];rfl):p:=h
theorem aoe {p:Prop} (h:p:=by have h_:=eB w (.cells #[Z ab x.f0.f0,Z ab x.f0.f1,Z ab x.f1.f0,Z ab x.f1.f1] 31);first|exact h_|(simp only [World.size_alloc] at h_;exact h_)):p:=h
theorem age {p:Prop} (h:p:=by rw [HV2.out,HZ.out];rfl):p:=h
theorem agf {p:Prop} (h:p:=by show Act.put _ (some 13) _ = _;simp only [Act.put,ap,aq,ar,eY,fo];rfl):p:=h
theorem al9 {p:Prop} (h:p:=by show Act.put _ (some 11) _ = _;simp only [Act.put,ap,aq,ar,eY,fo];rfl):p:=h
theorem asD {p:Prop} (h:p:=by first|(simp only [wy,Act.put,ap,aq,ar];done)|(simp only [wy,Act.put,ap,aq,ar];rfl)):p:=h
theorem aog {p:Prop} (h:p:=by show Act.put _ (some 29) _ = _;simp only [Act.put,ap,aq,ar,eY,fo];rfl):p:=h
theorem aFf {p:Prop} (h:p:=by show Act.put _ (some 12) _ = _;simp only [Act.put,ap,aq,ar,eY,fo];rfl):p:=h
theorem aFg {p:Prop} (h:p:=by show Act.put _ (some 43) _ = _;simp only [Act.put,ap,aq,ar,eY,fo];rfl):p:=h
theorem aBR {p:Prop} (h:p:=by exact (lV.c2 (show Kd.M k27 _ _ _ (⟨ai,aj⟩:jK) [Z ab ai,Z ab aj] from (wz _ _ _ (⟨ai,aj⟩:jK))) (lV.c2 (show Kd.M k27 _ _ _ (⟨az,aA⟩:jK) [Z ab az,Z ab aA] from (wz _ _ _ (⟨az,aA⟩:jK))) (lV.none _ _)))):p:=h
theorem aFh {p:Prop} (h:p:=by show Act.put _ (some 20) _ = _;simp only [Act.put,ap,aq,ar,eY,fo];rfl):p:=h
theorem aoh {p:Prop} (h:p:=by show Act.put _ (some 24) _ = _;simp only [Act.put,ap,aq,ar,eY,fo];rfl):p:=h
theorem aFi {p:Prop} (h:p:=by show Act.put _ (some 28) _ = _;simp only [Act.put,ap,aq,ar,eY,fo];rfl):p:=h
theorem aFj {p:Prop} (h:p:=by first|rfl|(simp [lg,lh] <;> rfl)|(simp only [← Zi,← Zj,← Nh];first|rfl|(simp [lg,lh] <;> rfl))|(simp [*,lg,lh] <;> rfl)):p:=h
theorem ac2 {p:Prop} (h:p:=by have h_:=eB (w.alloc (.cells #[Z ab s.nx,Z ab s.ny,Z ab s.cell,Z ab s.slot,Z ab s.slots,Z ab s.layers,Z ab s.most,.slice A7 s.bf.length c7,.slice A8 s.aC.length c8] 25)) (.cells #[Z ab v.speed,Z ab v.bq,Z ab v.use.f0,Z ab v.use.f1,Z ab v.aV.f0,Z ab v.aV.f1,Z ab v.reserve] 29);first|exact h_|(simp only [World.size_alloc] at h_;exact h_)):p:=h
theorem ama {p:Prop} (h:p:=by have h_:=eB ((w.alloc (.cells #[Z ab s.nx,Z ab s.ny,Z ab s.cell,Z ab s.slot,Z ab s.slots,Z ab s.layers,Z ab s.most,.slice A7 s.bf.length c7,.slice A8 s.aC.length c8] 25)).alloc (.cells #[Z ab v.speed,Z ab v.bq,Z ab v.use.f0,Z ab v.use.f1,Z ab v.aV.f0,Z ab v.aV.f1,Z ab v.reserve] 29)) (.cells #[Z ab x.f0.f0,Z ab x.f0.f1,Z ab x.f1.f0,Z ab x.f1.f1] 31);first|exact h_|(simp only [World.size_alloc] at h_;exact h_)):p:=h
theorem aoi {p:Prop} (h:p:=by show Act.put _ (some 14) _ = _;simp only [Act.put,ap,aq,ar,eY,fo];rfl):p:=h
theorem aBS {p:Prop} (h:p:=by show Act.put _ (some 3) _ = _;simp only [Act.put,ap,aq,ar,eY,fo];rfl):p:=h
theorem Nk {p:Prop} (h:p:=by simp only [wy,Act.put,ap,aq,ar]):p:=h
theorem aBT {p:Prop} (h:p:=by (with_reducible repeat (first|apply Kd.ky|apply Kd.jY|apply Kd.jP));exact nk.out):p:=h
theorem aBU {p:Prop} (h:p:=by (with_reducible repeat (first|apply Kd.ky|apply Kd.jY|apply Kd.jP));exact nu.out):p:=h
theorem GH {p:Prop} (h:p:=by first|omega|exact Nat.le_refl _):p:=h
theorem aBV {p:Prop} (h:p:=by show Act.put _ (some 116) _ = _;simp only [Act.put,ap,aq,ar,eY,fo];rfl):p:=h
theorem aFk {p:Prop} (h:p:=by show Act.put _ (some 130) _ = _;simp only [Act.put,ap,aq,ar,eY,fo];rfl):p:=h
theorem aBW {p:Prop} (h:p:=by exact (lV.one (show Kd.M (Kd.int .i64) _ _ _ 0 [Z ab 0] from rfl) (lV.one (show Kd.M (Kd.int .i64) _ _ _ 707 [Z ab 707] from rfl) (lV.one (show Kd.M (Kd.int .i64) _ _ _ 1000 [Z ab 1000] from rfl) (lV.one (show Kd.M (Kd.int .i64) _ _ _ 707 [Z ab 707] from rfl) (lV.one (show Kd.M (Kd.int .i64) _ _ _ 0 [Z ab 0] from rfl) (lV.one (show Kd.M (Kd.int .i64) _ _ _ (-707) [Z ab (-707)] from rfl) (lV.one (show Kd.M (Kd.int .i64) _ _ _ (-1000) [Z ab (-1000)] from rfl) (lV.one (show Kd.M (Kd.int .i64) _ _ _ (-707) [Z ab (-707)] from rfl) (lV.one (show Kd.M (Kd.int .i64) _ _ _ 0 [Z ab 0] from rfl) (lV.none _ _))))))))))):p:=h
theorem aBX {p:Prop} (h:p:=by exact (lV.one (show Kd.M (Kd.int .i64) _ _ _ 1000 [Z ab 1000] from rfl) (lV.one (show Kd.M (Kd.int .i64) _ _ _ 707 [Z ab 707] from rfl) (lV.one (show Kd.M (Kd.int .i64) _ _ _ 0 [Z ab 0] from rfl) (lV.one (show Kd.M (Kd.int .i64) _ _ _ (-707) [Z ab (-707)] from rfl) (lV.one (show Kd.M (Kd.int .i64) _ _ _ (-1000) [Z ab (-1000)] from rfl) (lV.one (show Kd.M (Kd.int .i64) _ _ _ (-707) [Z ab (-707)] from rfl) (lV.one (show Kd.M (Kd.int .i64) _ _ _ 0 [Z ab 0] from rfl) (lV.one (show Kd.M (Kd.int .i64) _ _ _ 707 [Z ab 707] from rfl) (lV.one (show Kd.M (Kd.int .i64) _ _ _ 0 [Z ab 0] from rfl) (lV.none _ _))))))))))):p:=h
theorem amb {p:Prop} (h:p:=by (with_reducible repeat (first|apply Kd.ky|apply Kd.jY|apply Kd.jP));exact I8.out):p:=h
theorem aFl {p:Prop} (h:p:=by first|rfl|(simp [lg,lh] <;> rfl)|(simp only [← Jl,← P7];first|rfl|(simp [lg,lh] <;> rfl))|(simp [*,lg,lh] <;> rfl)):p:=h
theorem aBY {p:Prop} (h:p:=by show Act.put _ (some 49) _ = _;simp only [Act.put,ap,aq,ar,eY,fo];rfl):p:=h
theorem aBZ {p:Prop} (h:p:=by show Act.put _ (some 50) _ = _;simp only [Act.put,ap,aq,ar,eY,fo];rfl):p:=h
theorem aFm {p:Prop} (h:p:=by (try simp only [List.map_toArray,List.map_cons,List.map_nil]);first|done|(simp only [Yf];rfl)|rfl|(simp only [List.length_drop,List.length_take];rfl)):p:=h
theorem asE {p:Prop} (h:p:=by show Act.put _ (some 75) _ = _;simp only [Act.put,ap,aq,ar,eY,fo];rfl):p:=h
theorem aFn {p:Prop} (h:p:=by show Act.put _ (some 80) _ = _;simp only [Act.put,ap,aq,ar,eY,fo];rfl):p:=h
theorem asF {p:Prop} (h:p:=by have:=Cj.out;have:=agh.out;have:=HK3.out;omega):p:=h
theorem aB0 {p:Prop} (h:p:=by show Act.put _ (some 32) _ = _;simp only [Act.put,ap,aq,ar,eY,fo];rfl):p:=h
theorem aFo {p:Prop} (h:p:=by show Act.put _ (some 26) _ = _;simp only [Act.put,ap,aq,ar,eY,fo];rfl):p:=h
theorem aFp {p:Prop} (h:p:=by show Act.put _ (some 30) _ = _;simp only [Act.put,ap,aq,ar,eY,fo];rfl):p:=h
theorem asG {p:Prop} (h:p:=by show Act.put _ (some 37) _ = _;simp only [Act.put,ap,aq,ar,eY,fo];rfl):p:=h
theorem ac3 {p:Prop} (h:p:=by (with_reducible repeat (first|apply Kd.ky|apply Kd.jY|apply Kd.jP));exact oW.out):p:=h
theorem asH {p:Prop} (h:p:=by show Act.put _ (some 15) _ = _;simp only [Act.put,ap,aq,ar,eY,fo];rfl):p:=h
theorem asI {p:Prop} (h:p:=by have:=bd _ _ uN;first|rwa [add_block] at this|exact this):p:=h
theorem ac4 {p:Prop} (h:p:=by first|exact Nat.ne_of_lt (Nat.lt_of_lt_of_le asI Ab.out)|(rw [add_block];exact Nat.ne_of_lt (Nat.lt_of_lt_of_le asI Ab.out))|(show (Addr.add _ _).block≠_;rw [add_block];exact Nat.ne_of_lt (Nat.lt_of_lt_of_le asI Ab.out))|(dsimp only;exact Nat.ne_of_lt (Nat.lt_of_lt_of_le asI Ab.out))):p:=h
theorem asJ {p:Prop} (h:p:=by have:=bd _ _ uO;first|rwa [add_block] at this|exact this):p:=h
theorem ac5 {p:Prop} (h:p:=by first|exact Nat.ne_of_lt (Nat.lt_of_lt_of_le asJ Ab.out)|(rw [add_block];exact Nat.ne_of_lt (Nat.lt_of_lt_of_le asJ Ab.out))|(show (Addr.add _ _).block≠_;rw [add_block];exact Nat.ne_of_lt (Nat.lt_of_lt_of_le asJ Ab.out))|(dsimp only;exact Nat.ne_of_lt (Nat.lt_of_lt_of_le asJ Ab.out))):p:=h
theorem asK {p:Prop} (h:p:=by show Act.put _ (some 23) _ = _;simp only [Act.put,ap,aq,ar,eY,fo];rfl):p:=h
theorem ac6 {p:Prop} (h:p:=by (with_reducible repeat (first|apply Kd.ky|apply Kd.jY|apply Kd.jP));exact wB.out):p:=h
theorem asL {p:Prop} (h:p:=by have:=bd _ _ uP;first|rwa [add_block] at this|exact this):p:=h
theorem asM {p:Prop} (h:p:=by first|exact Nat.ne_of_lt (Nat.lt_of_lt_of_le asL Ac.out)|(rw [add_block];exact Nat.ne_of_lt (Nat.lt_of_lt_of_le asL Ac.out))|(show (Addr.add _ _).block≠_;rw [add_block];exact Nat.ne_of_lt (Nat.lt_of_lt_of_le asL Ac.out))|(dsimp only;exact Nat.ne_of_lt (Nat.lt_of_lt_of_le asL Ac.out))):p:=h
theorem asN {p:Prop} (h:p:=by have:=bd _ _ uQ;first|rwa [add_block] at this|exact this):p:=h
theorem asO {p:Prop} (h:p:=by first|exact Nat.ne_of_lt (Nat.lt_of_lt_of_le asN Ac.out)|(rw [add_block];exact Nat.ne_of_lt (Nat.lt_of_lt_of_le asN Ac.out))|(show (Addr.add _ _).block≠_;rw [add_block];exact Nat.ne_of_lt (Nat.lt_of_lt_of_le asN Ac.out))|(dsimp only;exact Nat.ne_of_lt (Nat.lt_of_lt_of_le asN Ac.out))):p:=h
theorem aFq {p:Prop} (h:p:=by have h_:=eB wr (.cells #[Z ab d.f0,Z ab d.f1] 33);first|exact h_|(simp only [World.size_alloc] at h_;exact h_)):p:=h
theorem Zk {p:Prop} (h:p:=by rw [HZ.out];exact Kd.Na _ _ _ _ _):p:=h
theorem asP {p:Prop} (h:p:=by exact (lV.c2 (show Kd.M k27 _ _ _ (⟨ai,aj⟩:jK) [Z ab ai,Z ab aj] from (wz _ _ _ (⟨ai,aj⟩:jK))) (lV.c2 (show Kd.M k27 _ _ _ (⟨aQ,aN⟩:jK) [Z ab aQ,Z ab aN] from (wz _ _ _ (⟨aQ,aN⟩:jK))) (lV.none _ _)))):p:=h
theorem aB1 {p:Prop} (h:p:=by (with_reducible repeat (first|apply Kd.ky|apply Kd.jY|apply Kd.jP));exact oz.out):p:=h
theorem aB2 {p:Prop} (h:p:=by have h_:=eB (((w.alloc (.cells #[Z ab s.nx,Z ab s.ny,Z ab s.cell,Z ab s.slot,Z ab s.slots,Z ab s.layers,Z ab s.most,.slice A7 s.bf.length c7,.slice A8 s.aC.length c8] 25)).alloc (.cells #[Z ab v.speed,Z ab v.bq,Z ab v.use.f0,Z ab v.use.f1,Z ab v.aV.f0,Z ab v.aV.f1,Z ab v.reserve] 29)).alloc (.cells #[Z ab x.f0.f0,Z ab x.f0.f1,Z ab x.f1.f0,Z ab x.f1.f1] 31)) (.cells #[Z ab ev.f0,Z ab ev.f1] 27);first|exact h_|(simp only [World.size_alloc] at h_;exact h_)):p:=h
theorem aB3 {p:Prop} (h:p:=by have h_:=eB ((((w.alloc (.cells #[Z ab s.nx,Z ab s.ny,Z ab s.cell,Z ab s.slot,Z ab s.slots,Z ab s.layers,Z ab s.most,.slice A7 s.bf.length c7,.slice A8 s.aC.length c8] 25)).alloc (.cells #[Z ab v.speed,Z ab v.bq,Z ab v.use.f0,Z ab v.use.f1,Z ab v.aV.f0,Z ab v.aV.f1,Z ab v.reserve] 29)).alloc (.cells #[Z ab x.f0.f0,Z ab x.f0.f1,Z ab x.f1.f0,Z ab x.f1.f1] 31)).alloc (.cells #[Z ab ev.f0,Z ab ev.f1] 27)) (.cells #[Z ab p.f0.f0.f0,Z ab p.f0.f0.f1,Z ab p.f0.f1.f0,Z ab p.f0.f1.f1,Z ab p.f1,Z ab p.f2] 81);first|exact h_|(simp only [World.size_alloc] at h_;exact h_)):p:=h
theorem aFr {p:Prop} (h:p:=by have h_:=eB V (.cells #[Z ab x.f0.f0,Z ab x.f0.f1,Z ab x.f1.f0,Z ab x.f1.f1] 31);first|exact h_|(simp only [World.size_alloc] at h_;exact h_)):p:=h
theorem aFs {p:Prop} (h:p:=by have h_:=eB (V.alloc (.cells #[Z ab x.f0.f0,Z ab x.f0.f1,Z ab x.f1.f0,Z ab x.f1.f1] 31)) (.cells #[Z ab t] 2);first|exact h_|(simp only [World.size_alloc] at h_;exact h_)):p:=h
theorem aFt {p:Prop} (h:p:=by have h_:=eB ((V.alloc (.cells #[Z ab x.f0.f0,Z ab x.f0.f1,Z ab x.f1.f0,Z ab x.f1.f1] 31)).alloc (.cells #[Z ab t] 2)) (.cells #[Z ab left] 2);first|exact h_|(simp only [World.size_alloc] at h_;exact h_)):p:=h
theorem aFu {p:Prop} (h:p:=by have h_:=eB (((V.alloc (.cells #[Z ab x.f0.f0,Z ab x.f0.f1,Z ab x.f1.f0,Z ab x.f1.f1] 31)).alloc (.cells #[Z ab t] 2)).alloc (.cells #[Z ab left] 2)) (.cells #[Z ab cost] 2);first|exact h_|(simp only [World.size_alloc] at h_;exact h_)):p:=h
theorem aFv {p:Prop} (h:p:=by have h_:=eB ((((V.alloc (.cells #[Z ab x.f0.f0,Z ab x.f0.f1,Z ab x.f1.f0,Z ab x.f1.f1] 31)).alloc (.cells #[Z ab t] 2)).alloc (.cells #[Z ab left] 2)).alloc (.cells #[Z ab cost] 2)) (.cells #[(Value.slice Ap plan.length cp)] 49);first|exact h_|(simp only [World.size_alloc] at h_;exact h_)):p:=h
theorem aFw {p:Prop} (h:p:=by have h_:=eB (((((V.alloc (.cells #[Z ab x.f0.f0,Z ab x.f0.f1,Z ab x.f1.f0,Z ab x.f1.f1] 31)).alloc (.cells #[Z ab t] 2)).alloc (.cells #[Z ab left] 2)).alloc (.cells #[Z ab cost] 2)).alloc (.cells #[(Value.slice Ap plan.length cp)] 49)) (.cells #[.bool there] 4);first|exact h_|(simp only [World.size_alloc] at h_;exact h_)):p:=h
theorem aFx {p:Prop} (h:p:=by show Act.put _ (some 103) _ = _;simp only [Act.put,ap,aq,ar,eY,fo];rfl):p:=h
theorem aFy {p:Prop} (h:p:=by show Act.put _ (some 104) _ = _;simp only [Act.put,ap,aq,ar,eY,fo];rfl):p:=h
theorem aFz {p:Prop} (h:p:=by show Act.put _ (some 111) _ = _;simp only [Act.put,ap,aq,ar,eY,fo];rfl):p:=h
theorem ac7 {p:Prop} (h:p:=by rw [List.length_append,List.length_singleton];omega):p:=h
theorem amc {p:Prop} (h:p:=by rw [HR.out];exact Kd.Na _ _ _ _ _):p:=h
theorem Nl {p:Prop} (h:p:=by repeat (first|exact mB|apply aH|apply bF|apply ng)):p:=h
theorem Zl {p:Prop} (h:p:=by (with_reducible repeat (first|apply Kd.Dy|apply Kd.Dz|apply Kd.Jv));exact EZ.out):p:=h
theorem agj {p:Prop} (h:p:=by (with_reducible repeat (first|apply Kd.Dy|apply Kd.Dz|apply Kd.Jv));exact P8.out):p:=h
theorem aFA {p:Prop} (h:p:=by show Act.put _ (some 89) _ = _;simp only [Act.put,ap,aq,ar,eY,fo];rfl):p:=h
theorem aFB {p:Prop} (h:p:=by show Act.put _ (some 72) _ = _;simp only [Act.put,ap,aq,ar,eY,fo];rfl):p:=h
end Go.Proofs.YtmhaiihjfgfaoaaW.ek
end
section
namespace Go.Proofs.Ytmhaiihjfgfaoaa.Pr
open Go.RowKit Go.Proofs.YtmhaiihjfgfaoaaW.bu Go.Proofs.YtmhaiihjfgfaoaaW.dB Go.Proofs.YtmhaiihjfgfaoaaW.ek
attribute [local go_sem] iq iw jq jr iy
def aFC:Option Int→Value
 |none=>.nilIface
 |some c=>.iface 0 (Z ab c)
theorem lg:aFC none = .nilIface:=rfl
theorem lh (c:Int):aFC (some c) = .iface 0 (Z ab c):=rfl
theorem aFD:(Try.prog.info? 4).map (fun i=>(i.zero,i.size,i.bytes)) = some (some (.bool false),1,1):=by kernel_rfl
theorem aoj:(Try.prog.info? 27).map (fun i=>(i.zero,i.size,i.bytes)) = some (some (.agg #[(Z ab 0),(Z ab 0)]),2,16):=by kernel_rfl
theorem aok:(Try.prog.info? 31).map (fun i=>(i.zero,i.size,i.bytes)) = some (some (.agg #[(Z ab 0),(Z ab 0),(Z ab 0),(Z ab 0)]),4,32):=by kernel_rfl
theorem Vt:(Try.prog.info? 33).map (fun i=>(i.zero,i.size,i.bytes)) = some (some (.agg #[(Z ab 0),(Z ab 0)]),2,16):=by kernel_rfl
theorem aB4:(Try.prog.info? 40).map (fun i=>(i.zero,i.size,i.bytes)) = some (some (.agg #[(Z ab 0),(Z ab 0),(Z ab 0),(Z ab 0)]),4,32):=by kernel_rfl
theorem aB5:(Try.prog.info? 49).map (fun i=>(i.zero,i.size,i.bytes)) = some (some (.slice none 0 0),1,24):=by kernel_rfl
structure jK where
 f0:Int
 f1:Int
def z27:jK:=⟨(0:Int),(0:Int)⟩
def k27:Kd jK:=Kd.iso (Kd.pair (Kd.int .i64) (Kd.int .i64)) (fun x:jK=>(x.f0,x.f1))
theorem Ad {w:ao} {x:jK} {cs:List Value} (h:k27.K w x cs):cs = [Z ab x.f0,Z ab x.f1]:=by
 obtain ⟨_,_,rfl,rfl,rfl⟩:=h
 exact rfl
theorem wz (w:ao) (base:Nat) (ok:Nat→Prop) (x:jK):k27.M w base ok x [Z ab x.f0,Z ab x.f1]:=⟨[Z ab x.f0],[Z ab x.f1],rfl,rfl,rfl⟩
def pV (xs:List jK) (i:Int):jK:=xs.getD i.toNat z27
theorem Zm {w:ao} {A:Option Addr} {n:Nat} {xs:List jK} (h:Kd.C k27 w A n xs) (i:Int) (h0:0≤i) (h1:i < n):∃ ad,A = some ad∧w.cell? (ad.add (i.toNat*2)) = some (Z ab (pV xs i).f0)∧w.cell? ⟨(ad.add (i.toNat*2)).block,(ad.add (i.toNat*2)).off+1,none⟩ = some (Z ab (pV xs i).f1):=by
 obtain ⟨ad,c,e,_,hK,hc0⟩:=Kd.acU h z27 i h0 h1
 have hc:∀ j u,c[j]? = some u→w.cell? (ad.add (i.toNat*2+j)) = some u:=hc0
 obtain rfl:=Ad hK
 exact ⟨ad,e,hc 0 _ rfl,zq0⟩
structure qK where
 f0:jK
 f1:jK
def z40:qK:=⟨z27,z27⟩
def Dt:Kd qK:=Kd.iso (Kd.pair k27 k27) (fun x:qK=>(x.f0,x.f1))
theorem aol {w:ao} {x:qK} {cs:List Value} (h:Dt.K w x cs):cs = [Z ab x.f0.f0,Z ab x.f0.f1,Z ab x.f1.f0,Z ab x.f1.f1]:=by
 obtain ⟨_,_,rfl,s0,s2⟩:=h
 obtain rfl:=Ad s0
 obtain rfl:=Ad s2
 exact rfl
theorem asQ (w:ao) (base:Nat) (ok:Nat→Prop) (x:qK):Dt.M w base ok x [Z ab x.f0.f0,Z ab x.f0.f1,Z ab x.f1.f0,Z ab x.f1.f1]:=⟨[Z ab x.f0.f0,Z ab x.f0.f1],[Z ab x.f1.f0,Z ab x.f1.f1],rfl,(wz w base ok x.f0),(wz w base ok x.f1)⟩
def bE (xs:List qK) (i:Int):qK:=xs.getD i.toNat z40
theorem GI {w:ao} {A:Option Addr} {n:Nat} {xs:List qK} (h:Kd.C Dt w A n xs) (i:Int) (h0:0≤i) (h1:i < n):∃ ad,A = some ad∧w.cell? (ad.add (i.toNat*4)) = some (Z ab (bE xs i).f0.f0)∧w.cell? ⟨(ad.add (i.toNat*4)).block,(ad.add (i.toNat*4)).off+1,none⟩ = some (Z ab (bE xs i).f0.f1)∧w.cell? ⟨(ad.add (i.toNat*4)).block,(ad.add (i.toNat*4)).off+2,none⟩ = some (Z ab (bE xs i).f1.f0)∧w.cell? ⟨(ad.add (i.toNat*4)).block,(ad.add (i.toNat*4)).off+3,none⟩ = some (Z ab (bE xs i).f1.f1):=by
 obtain ⟨ad,c,e,_,hK,hc0⟩:=Kd.acU h z40 i h0 h1
 have hc:∀ j u,c[j]? = some u→w.cell? (ad.add (i.toNat*4+j)) = some u:=hc0
 obtain rfl:=aol hK
 exact ⟨ad,e,hc 0 _ rfl,zq0,by rw [← Fq _ _ 2 (by omega)];exact hc 2 _ rfl,by rw [← Fq _ _ 3 (by omega)];exact hc 3 _ rfl⟩
structure S25 where
 f0:Int
 f1:Int
 f2:Int
 f3:Int
 f4:Int
 f5:Int
 f6:Int
 f7:(List Bool)
 f8:(List qK)
def k25:Kd S25:=Kd.iso (Kd.pair (Kd.int .i64) (Kd.pair (Kd.int .i64) (Kd.pair (Kd.int .i64) (Kd.pair (Kd.int .i64) (Kd.pair (Kd.int .i64) (Kd.pair (Kd.int .i64) (Kd.pair (Kd.int .i64) (Kd.pair (Kd.slice 4 Kd.bool) (Kd.slice 40 Dt))))))))) (fun x:S25=>(x.f0,x.f1,x.f2,x.f3,x.f4,x.f5,x.f6,x.f7,x.f8))
theorem aom {w:ao} {x:S25} {cs:List Value} (h:k25.K w x cs):∃ A7 c7 A8 c8,cs = [Z ab x.f0,Z ab x.f1,Z ab x.f2,Z ab x.f3,Z ab x.f4,Z ab x.f5,Z ab x.f6,.slice A7 x.f7.length c7,.slice A8 x.f8.length c8]∧x.f7.length≤c7∧Kd.bool.C w A7 x.f7.length x.f7∧x.f8.length≤c8∧Dt.C w A8 x.f8.length x.f8:=by
 obtain ⟨_,_,rfl,rfl,⟨_,_,rfl,rfl,⟨_,_,rfl,rfl,⟨_,_,rfl,rfl,⟨_,_,rfl,rfl,⟨_,_,rfl,rfl,⟨_,_,rfl,rfl,⟨_,_,rfl,⟨A7,c7,rfl,l7,g7⟩,⟨A8,c8,rfl,l8,g8⟩⟩⟩⟩⟩⟩⟩⟩⟩:=h
 exact ⟨A7,c7,A8,c8,rfl,l7,g7,l8,g8⟩
structure gU where
 f0:Int
 f1:Int
def z33:gU:=⟨(0:Int),(0:Int)⟩
def yn:Kd gU:=Kd.iso (Kd.pair (Kd.int .i64) (Kd.int .i64)) (fun x:gU=>(x.f0,x.f1))
theorem aon {w:ao} {x:gU} {cs:List Value} (h:yn.K w x cs):cs = [Z ab x.f0,Z ab x.f1]:=by
 obtain ⟨_,_,rfl,rfl,rfl⟩:=h
 exact rfl
theorem aB6 (w:ao) (x:gU):yn.K w x [Z ab x.f0,Z ab x.f1]:=⟨[Z ab x.f0],[Z ab x.f1],rfl,rfl,rfl⟩
theorem ahK (w:ao) (base:Nat) (ok:Nat→Prop) (x:gU):yn.M w base ok x [Z ab x.f0,Z ab x.f1]:=⟨[Z ab x.f0],[Z ab x.f1],rfl,rfl,rfl⟩
def bX (xs:List gU) (i:Int):gU:=xs.getD i.toNat z33
theorem lN {w:ao} {A:Option Addr} {n:Nat} {xs:List gU} (h:Kd.C yn w A n xs) (i:Int) (h0:0≤i) (h1:i < n):∃ ad,A = some ad∧w.cell? (ad.add (i.toNat*2)) = some (Z ab (bX xs i).f0)∧w.cell? ⟨(ad.add (i.toNat*2)).block,(ad.add (i.toNat*2)).off+1,none⟩ = some (Z ab (bX xs i).f1):=by
 obtain ⟨ad,c,e,_,hK,hc0⟩:=Kd.acU h z33 i h0 h1
 have hc:∀ j u,c[j]? = some u→w.cell? (ad.add (i.toNat*2+j)) = some u:=hc0
 obtain rfl:=aon hK
 exact ⟨ad,e,hc 0 _ rfl,zq0⟩
structure S29 where
 f0:Int
 f1:Int
 f2:jK
 f3:jK
 f4:Int
def k29:Kd S29:=Kd.iso (Kd.pair (Kd.int .i64) (Kd.pair (Kd.int .i64) (Kd.pair k27 (Kd.pair k27 (Kd.int .i64))))) (fun x:S29=>(x.f0,x.f1,x.f2,x.f3,x.f4))
theorem aoo {w:ao} {x:S29} {cs:List Value} (h:k29.K w x cs):cs = [Z ab x.f0,Z ab x.f1,Z ab x.f2.f0,Z ab x.f2.f1,Z ab x.f3.f0,Z ab x.f3.f1,Z ab x.f4]:=by
 obtain ⟨_,_,rfl,rfl,⟨_,_,rfl,rfl,⟨_,_,rfl,s2,⟨_,_,rfl,s4,rfl⟩⟩⟩⟩:=h
 obtain rfl:=Ad s2
 obtain rfl:=Ad s4
 exact rfl
structure iA where
 f0:jK
 f1:jK
def z31:iA:=⟨z27,z27⟩
def k31:Kd iA:=Kd.iso (Kd.pair k27 k27) (fun x:iA=>(x.f0,x.f1))
theorem Vu {w:ao} {x:iA} {cs:List Value} (h:k31.K w x cs):cs = [Z ab x.f0.f0,Z ab x.f0.f1,Z ab x.f1.f0,Z ab x.f1.f1]:=by
 obtain ⟨_,_,rfl,s0,s2⟩:=h
 obtain rfl:=Ad s0
 obtain rfl:=Ad s2
 exact rfl
theorem ahL (w:ao) (base:Nat) (ok:Nat→Prop) (x:iA):k31.M w base ok x [Z ab x.f0.f0,Z ab x.f0.f1,Z ab x.f1.f0,Z ab x.f1.f1]:=⟨[Z ab x.f0.f0,Z ab x.f0.f1],[Z ab x.f1.f0,Z ab x.f1.f1],rfl,(wz w base ok x.f0),(wz w base ok x.f1)⟩
def gM (xs:List iA) (i:Int):iA:=xs.getD i.toNat z31
theorem agk {w:ao} {A:Option Addr} {n:Nat} {xs:List iA} (h:Kd.C k31 w A n xs) (i:Int) (h0:0≤i) (h1:i < n):∃ ad,A = some ad∧w.cell? (ad.add (i.toNat*4)) = some (Z ab (gM xs i).f0.f0)∧w.cell? ⟨(ad.add (i.toNat*4)).block,(ad.add (i.toNat*4)).off+1,none⟩ = some (Z ab (gM xs i).f0.f1)∧w.cell? ⟨(ad.add (i.toNat*4)).block,(ad.add (i.toNat*4)).off+2,none⟩ = some (Z ab (gM xs i).f1.f0)∧w.cell? ⟨(ad.add (i.toNat*4)).block,(ad.add (i.toNat*4)).off+3,none⟩ = some (Z ab (gM xs i).f1.f1):=by
 obtain ⟨ad,c,e,_,hK,hc0⟩:=Kd.acU h z31 i h0 h1
 have hc:∀ j u,c[j]? = some u→w.cell? (ad.add (i.toNat*4+j)) = some u:=hc0
 obtain rfl:=Vu hK
 exact ⟨ad,e,hc 0 _ rfl,zq0,by rw [← Fq _ _ 2 (by omega)];exact hc 2 _ rfl,by rw [← Fq _ _ 3 (by omega)];exact hc 3 _ rfl⟩
def wC (xs:List (List gU)) (i:Int):(List gU):=xs.getD i.toNat ([]:List gU)
theorem aB7 {w:ao} {A:Option Addr} {n:Nat} {xs:List (List gU)} (h:Kd.C (Kd.slice 33 yn) w A n xs) (i:Int) (h0:0≤i) (h1:i < n):∃ ad A0 c0,A = some ad∧w.cell? (ad.add i.toNat) = some (.slice A0 (wC xs i).length c0)∧(wC xs i).length≤c0∧yn.C w A0 (wC xs i).length (wC xs i):=by
 obtain ⟨ad,c,e,_,hK,hc0⟩:=Kd.acU h ([]:List gU) i h0 h1
 have hc:∀ j u,c[j]? = some u→w.cell? (ad.add (i.toNat*1+j)) = some u:=hc0
 obtain ⟨A0,c0,rfl,l0,g0⟩:=hK
 exact ⟨ad,A0,c0,e,by have hq:=hc 0 _ rfl;rwa [Nat.mul_one,Nat.add_zero] at hq,l0,g0⟩
structure BX where
 f0:iA
 f1:Int
 f2:Int
def k81:Kd BX:=Kd.iso (Kd.pair k31 (Kd.pair (Kd.int .i64) (Kd.int .i64))) (fun x:BX=>(x.f0,x.f1,x.f2))
theorem aop {w:ao} {x:BX} {cs:List Value} (h:k81.K w x cs):cs = [Z ab x.f0.f0.f0,Z ab x.f0.f0.f1,Z ab x.f0.f1.f0,Z ab x.f0.f1.f1,Z ab x.f1,Z ab x.f2]:=by
 obtain ⟨_,_,rfl,s0,⟨_,_,rfl,rfl,rfl⟩⟩:=h
 obtain rfl:=Vu s0
 exact rfl
theorem aoq (d:Nat) (w:ao) (x0 y0:Int) (x1 y1:Int):
 (Op.equalIn (d+2) 27 (.agg #[Z ab x0,Z ab x1]) (.agg #[Z ab y0,Z ab y1])).run Try.prog w = .ok (x0 == y0 && (x1 == y1)) w:=by
 refine agc Try.underlying27 aT ?_
 refine Vr (by rfl) (by go_simp;rfl) (by go_simp;rfl) (by go_simp) ?_
 exact Vq (by rfl) (by go_simp;rfl) (by go_simp;rfl) (by go_simp)
theorem azD (d:Nat) (w:ao) (x0 y0:Int) (x1 y1:Int) (x2 y2:Int) (x3 y3:Int):
 (Op.equalIn (d+3) 31 (.agg #[Z ab x0,Z ab x1,Z ab x2,Z ab x3]) (.agg #[Z ab y0,Z ab y1,Z ab y2,Z ab y3])).run Try.prog w = .ok ((x0 == y0 && (x1 == y1)) && ((x2 == y2 && (x3 == y3)))) w:=by
 refine agc Try.underlying31 aT ?_
 refine Vr (by rfl) (by go_simp) (by go_simp) (aoq (d+0) w _ _ _ _) ?_
 exact Vq (by rfl) (by go_simp) (by go_simp) (aoq (d+0) w _ _ _ _)
def cz.f (a0:Int) (a1:Int) (a2:Int):Option (Bool):=if a0 ≥ a1 then (some (decide (a0≤a2))) else (some false)
theorem cz.calls (a0:Int) (a1:Int) (a2:Int) (r:Bool) (w:ao) (h:cz.f a0 a1 a2 = some r):
 Calls Try.prog 74 #[Z ab a0,Z ab a1,Z ab a2] w fun e w'=>e = .returned (.bool r)∧su w w':=by
 have H:(if a0 ≥ a1 then (some (decide (a0≤a2))) else (some false)) = some r:=h
 clear h
 by_cases c4:a0 ≥ a1
 ·rw [if_pos c4] at H
  have rZ:decide (a1≤a0) = true:=decide_eq_true c4
  clear c4
  obtain rfl:=bh H
  go_enter Try.func74,Try.ntmps74
  go_wp2
  go_ret
  exact ⟨om,Xq⟩
 ·rw [if_neg c4] at H
  have rZ:decide (a1≤a0) = false:=decide_eq_false c4
  clear c4
  obtain rfl:=bh H
  go_enter Try.func74,Try.ntmps74
  go_wp2
  go_ret
  exact ⟨om,Xq⟩
def dM.l0:Nat→List (jK)→Int→Int→Option (Int)
 |0,_,_,_=>none
 |k+1,x5,x6,x7=>if x7 < x6 then (if 0≤x7 then (if x7 < (x5.length:Int) then (if ((pV x5 x7).f0) > ((pV x5 x7).f1) then (some 2) else (if ((pV x5 x7).f0) < (-1073741824) then (some 2) else (if ((pV x5 x7).f1) > 1073741824 then (some 2) else (dM.l0 k x5 x6 (an (x7+1)))))) else (none)) else (none)) else (some 0)
def dM.f (k:Nat) (l0:List (jK)):Option (Int):=dM.l0 k l0 (l0.length:Int) 0
theorem dM.Vv:∀ k,(∀ y0 y1 y2,oV (dM.l0 k y0 y1 y2) (dM.l0 (k+1) y0 y1 y2))
 |0=>fun _ _ _ r h=>by simp [dM.l0] at h
 |k+1=>by
  have ih0:=dM.Vv k
  ·intro y0 y1 y2
   unfold dM.l0
   repeat' first
   |(with_reducible exact ih0 _ _ _)
   |(with_reducible exact oV.refl _)
   |(with_reducible exact oV.none _)
   |(with_reducible refine oV.ite ?_ ?_)
   |(with_reducible refine oV.bind ?_ (fun _=>?_))
   |exact ih0 _ _ _
   |exact oV.none _
   |refine oV.ite ?_ ?_
   |refine oV.bind ?_ (fun _=>?_)
theorem dM.mono:∀ a0 k,oV (dM.f k a0) (dM.f (k+1) a0):=by
 intro a0 k
 have ih0:=dM.Vv k
 unfold dM.f
 repeat' first
  |(with_reducible exact ih0 _ _ _)
  |(with_reducible exact oV.refl _)
  |(with_reducible exact oV.none _)
  |(with_reducible refine oV.ite ?_ ?_)
  |(with_reducible refine oV.bind ?_ (fun _=>?_))
  |exact ih0 _ _ _
  |exact oV.none _
  |refine oV.ite ?_ ?_
  |refine oV.bind ?_ (fun _=>?_)
theorem dM.calls (k:Nat) (A0:Option Addr) (c0:Nat) (l0:List (jK)) (r:Int) (w:ao) (hr0:Kd.C k27 w A0 l0.length l0) (hc0:l0.length≤c0) (h:dM.f k l0 = some r):
 Calls Try.prog 116 #[.slice A0 l0.length c0] w fun e w'=>e = .returned (Z ab r)∧Below w.heap.size w w':=by
 have oO:=Try.underlying27
 have Mh:=af.mk hr0
 have HC0:=af.mk hc0
 clear hr0 hc0
 have HB:=af.mk (Below.refl w.heap.size w)
 have H:(dM.l0 k l0 (l0.length:Int) 0) = some r:=h
 clear h
 have H':=af.mk H
 clear H
 go_enter Try.func116,Try.ntmps116
 go_wp2
 go_loopg [7] k (fun kq v7 w'=>∃ (kE:Int),v7 = Z ab kE∧af (dM.l0 kq l0 (l0.length:Int) kE = some r)∧af (kq≤k)∧af (Below w.heap.size w w'))
 case atStart=>exact ⟨(0),om,H',⟨Nat.le_refl _⟩,⟨gp⟩⟩
 case round =>
  clear H'
  try clear c1
  obtain ⟨kE,rfl,HA,Cj,HB⟩:=hrel
  cases gk with
  |zero=>exact absurd HA.out (by simp [dM.l0])
  |succ k1 =>
   have H:=HA.out
   clear HA
   simp only [dM.l0] at H
   by_cases c2:kE < (l0.length:Int)
   ·rw [if_pos c2] at H
    have ac8:decide (kE < (l0.length:Int)) = true:=decide_eq_true c2
    clear c2
    by_cases c3:0≤kE
    ·rw [if_pos c3] at H
     have yo:decide (0≤kE) = true:=decide_eq_true c3
     clear c3
     by_cases c4:kE < (l0.length:Int)
     ·rw [if_pos c4] at H
      have rZ:decide (kE < (l0.length:Int)) = true:=decide_eq_true c4
      clear c4
      by_cases c5:((pV l0 kE).f0) > ((pV l0 kE).f1)
      ·rw [if_pos c5] at H
       have yt:decide (((pV l0 kE).f1) < ((pV l0 kE).f0)) = true:=decide_eq_true c5
       clear c5
       obtain rfl:=bh H
       have MB:0≤(kE:Int):=of_decide_eq_true nM
       have MC:kE < (l0.length:Int):=of_decide_eq_true nM
       obtain ⟨aos,e129,qO,qP⟩:=Zm Mh.out kE MB MC
       cases e129
       replace qO:=(HB.out.cell (bd w _ qO)).trans qO
       replace qP:=(HB.out.cell (bd w _ qP)).trans qP
       replace MB:=eq_true MB
       replace MC:=eq_true MC
       go_wp2_with (first|((with_reducible refine av (N:=4) rfl ?_);refine ak (by rfl) (N:=4) (by rfl) (cs:=#[Z ab 0,Z ab 0]) (t:=27) fU ?_;intro aot hg w6 ay hb;have Vw:=af.mk (ay);have aou:=bY HB hg;have aov:=bY HB hg;replace HB:=dz HB hb;clear hb ay hg;obtain ⟨wD,wE,wF,wG⟩:=iQ Vw.out))
       go_ret
       exact ⟨mJ,gp⟩
      ·rw [if_neg c5] at H
       have yt:decide (((pV l0 kE).f1) < ((pV l0 kE).f0)) = false:=decide_eq_false c5
       clear c5
       by_cases c8:((pV l0 kE).f0) < (-1073741824)
       ·rw [if_pos c8] at H
        have GJ:decide (((pV l0 kE).f0) < (-1073741824)) = true:=decide_eq_true c8
        clear c8
        obtain rfl:=bh H
        have MB:0≤(kE:Int):=of_decide_eq_true nM
        have MC:kE < (l0.length:Int):=of_decide_eq_true nM
        obtain ⟨aos,e129,qO,qP⟩:=Zm Mh.out kE MB MC
        cases e129
        replace qO:=(HB.out.cell (bd w _ qO)).trans qO
        replace qP:=(HB.out.cell (bd w _ qP)).trans qP
        replace MB:=eq_true MB
        replace MC:=eq_true MC
        go_wp2_with (first|((with_reducible refine av (N:=4) rfl ?_);refine ak (by rfl) (N:=4) (by rfl) (cs:=#[Z ab 0,Z ab 0]) (t:=27) fU ?_;intro aot hg w9 ay hb;have Vw:=af.mk (ay);have aou:=bY HB hg;have aov:=bY HB hg;replace HB:=dz HB hb;clear hb ay hg;obtain ⟨sP,sQ,sS,sU⟩:=iQ Vw.out))
        go_ret
        exact ⟨mJ,gp⟩
       ·rw [if_neg c8] at H
        have GJ:decide (((pV l0 kE).f0) < (-1073741824)) = false:=decide_eq_false c8
        clear c8
        by_cases c11:((pV l0 kE).f1) > 1073741824
        ·rw [if_pos c11] at H
         have I9:decide (1073741824 < ((pV l0 kE).f1)) = true:=decide_eq_true c11
         clear c11
         obtain rfl:=bh H
         have MB:0≤(kE:Int):=of_decide_eq_true nM
         have MC:kE < (l0.length:Int):=of_decide_eq_true nM
         obtain ⟨aos,e129,qO,qP⟩:=Zm Mh.out kE MB MC
         cases e129
         replace qO:=(HB.out.cell (bd w _ qO)).trans qO
         replace qP:=(HB.out.cell (bd w _ qP)).trans qP
         replace MB:=eq_true MB
         replace MC:=eq_true MC
         go_wp2_with (first|((with_reducible refine av (N:=4) rfl ?_);refine ak (by rfl) (N:=4) (by rfl) (cs:=#[Z ab 0,Z ab 0]) (t:=27) fU ?_;intro aot hg Ja ay hb;have Vw:=af.mk (ay);have aou:=bY HB hg;have aov:=bY HB hg;replace HB:=dz HB hb;clear hb ay hg;obtain ⟨sV,sW,sZ,tq⟩:=iQ Vw.out))
         go_ret
         exact ⟨mJ,gp⟩
        ·rw [if_neg c11] at H
         have I9:decide (1073741824 < ((pV l0 kE).f1)) = false:=decide_eq_false c11
         clear c11
         have H':=af.mk H
         clear H
         have MB:0≤(kE:Int):=of_decide_eq_true nM
         have MC:kE < (l0.length:Int):=of_decide_eq_true nM
         obtain ⟨aos,e129,qO,qP⟩:=Zm Mh.out kE MB MC
         cases e129
         replace qO:=(HB.out.cell (bd w _ qO)).trans qO
         replace qP:=(HB.out.cell (bd w _ qP)).trans qP
         replace MB:=eq_true MB
         replace MC:=eq_true MC
         go_wp2_with (first|((with_reducible refine av (N:=4) rfl ?_);refine ak (by rfl) (N:=4) (by rfl) (cs:=#[Z ab 0,Z ab 0]) (t:=27) fU ?_;intro aot hg w14 ay hb;have Vw:=af.mk (ay);have aou:=bY HB hg;have aov:=bY HB hg;replace HB:=dz HB hb;clear hb ay hg;obtain ⟨oG,oH,oI,oJ⟩:=iQ Vw.out))
         go_roundg k1
         case measure=>have:=Cj.out;omega
         case rel=>exact ⟨(an (kE+1)),om,H',⟨zq7⟩,⟨gp⟩⟩
     ·rw [if_neg c4] at H
      exact absurd H (by simp)
    ·rw [if_neg c3] at H
     exact absurd H (by simp)
   ·rw [if_neg c2] at H
    have ac8:decide (kE < (l0.length:Int)) = false:=decide_eq_false c2
    clear c2
    obtain rfl:=bh H
    go_wp2
    go_ret
    exact ⟨mJ,gp⟩
def lv.f (k:Nat) (ai:Int) (aj:Int):Option (Int):=(dM.f k (([(⟨ai,aj⟩:jK)]:List (jK)))).bind fun t135=>(some t135)
theorem lv.mono:∀ a0 a1 k,oV (lv.f k a0 a1) (lv.f (k+1) a0 a1):=by
 intro a0 a1 k
 unfold lv.f
 repeat' first
  |(with_reducible exact dM.mono _ _)
  |(with_reducible exact oV.refl _)
  |(with_reducible exact oV.none _)
  |(with_reducible refine oV.ite ?_ ?_)
  |(with_reducible refine oV.bind ?_ (fun _=>?_))
  |exact dM.mono _ _
  |exact oV.none _
  |refine oV.ite ?_ ?_
  |refine oV.bind ?_ (fun _=>?_)
theorem lv.calls (k:Nat) (ai:Int) (aj:Int) (r:Int) (w:ao) (h:lv.f k ai aj = some r):
 Calls Try.prog 122 #[.agg #[Z ab ai,Z ab aj]] w fun e w'=>e = .returned (Z ab r)∧Below w.heap.size w w':=by
 have oO:=Try.underlying27
 have HB:=af.mk (Below.refl w.heap.size w)
 have H:((dM.f k (([(⟨ai,aj⟩:jK)]:List (jK)))).bind fun t135=>(some t135)) = some r:=h
 clear h
 obtain ⟨aB8,ada⟩:∃ y_:List (jK),y_ = (([(⟨ai,aj⟩:jK)]:List (jK))):=⟨_,rfl⟩
 replace H:((dM.f k aB8).bind fun t135=>(some t135)) = some r:=by first|(rw [ada];with_reducible exact H)|(have yu:=(aE _ _).symm.trans H;rw [ada];with_reducible exact yu)|(have yu:=(aE _ _).symm.trans H;with_reducible exact yu)|with_reducible exact H|(rw [ada];exact H)|exact H
 have azE:=af.mk ada
 clear ada
 replace H:=Option.bind_eq_some_iff.mp H
 obtain ⟨t135,Yg,H⟩:=H
 replace H:(some t135) = some r:=H
 have A2:=af.mk Yg
 clear Yg
 obtain rfl:=bh H
 go_enter Try.func122,Try.ntmps122
 go_wp2_with (first|((with_reducible refine av (N:=1) rfl ?_);refine ak (by rfl) (N:=1) (by rfl) (cs:=#[Z ab ai,Z ab aj]) (t:=27) fU ?_;intro aFG hg w3 ay hb;have ade:=af.mk (ay);have aZ4:=bY HB hg;have aZ5:=bY HB hg;replace HB:=dz HB hb;clear hb ay hg;obtain ⟨agl,agm,agn,agp⟩:=iQ ade.out)|((with_reducible refine av (N:=4) rfl ?_);refine Kd.z8 k27 _ 27 (by rfl) (N:=4) (by rfl) (xs:=([(⟨ai,aj⟩:jK)]:List (jK))) (inner:=[Z ab ai,Z ab aj]) (ok:=fun _=>True) (okp:=fun _=>True) fU (by exact (lV.c2 (show Kd.M k27 _ _ _ (⟨ai,aj⟩:jK) [Z ab ai,Z ab aj] from (wz _ _ _ (⟨ai,aj⟩:jK))) (lV.none _ _))) (fun _ hk=>hk) trivial (Below.refl _ _) (Nat.le_refl _) (by simp) ?_;intro a4U w5 Vx hb Jn oC;clear Jn oC;(first|rw [← azE.out] at Vx|(simp only [Int.reduceToNat] at Vx;rw [← azE.out] at Vx));have adf:=af.mk (Kd.kv (Kd.uw Vx (g:=aFG) (o:=.cells #[Z ab ai,Z ab aj] 27 (0,0)) iK) (fM gp));replace ade:=bn ade hb;replace HB:=dz HB hb;clear hb Vx;obtain ⟨Ao7,co7,eo7⟩:=Kd.lM adf.out;subst eo7)|((with_reducible refine aU (f:=116) rfl ?_);refine dn (some 5) rfl rfl Try.func116 aT rfl #[.slice Ao7 aB8.length co7] rfl jB ?_;(with_reducible refine (dM.calls k _ _ aB8 t135 _ ?dG ?dH A2.out).mono ?_);(case dG=>repeat (first|exact (Kd.fK adf.out).2.2|(with_reducible refine Kd.bJ ?_ _)|(with_reducible refine Kd.bK ?_ _)|(with_reducible refine Kd.bZ ?_)));(case dH=>exact (Kd.fK adf.out).2.1);rintro e w8 ⟨rfl,hb⟩;refine ⟨_,rfl,?_⟩;replace adf:=wh adf hb;replace ade:=bn ade hb;replace HB:=dz HB hb;(try clear hb);(try clear hb2);(try clear hk);(try clear hi)))
 go_ret
 exact ⟨mJ,gp⟩
def cK.f (k:Nat) (ai:Int) (aj:Int) (a1:Int) (a2:Int):Option (Bool):=(lv.f k ai aj).bind fun t137=>(if t137 = 0 then (if ai ≥ a1 then (some (decide (aj≤a2))) else (some false)) else (some false))
theorem cK.mono:∀ a0 a1 a2 a3 k,oV (cK.f k a0 a1 a2 a3) (cK.f (k+1) a0 a1 a2 a3):=by
 intro a0 a1 a2 a3 k
 unfold cK.f
 repeat' first
  |(with_reducible exact lv.mono _ _ _)
  |(with_reducible exact oV.refl _)
  |(with_reducible exact oV.none _)
  |(with_reducible refine oV.ite ?_ ?_)
  |(with_reducible refine oV.bind ?_ (fun _=>?_))
  |exact lv.mono _ _ _
  |exact oV.none _
  |refine oV.ite ?_ ?_
  |refine oV.bind ?_ (fun _=>?_)
theorem cK.calls (k:Nat) (ai:Int) (aj:Int) (a1:Int) (a2:Int) (r:Bool) (w:ao) (h:cK.f k ai aj a1 a2 = some r):
 Calls Try.prog 77 #[.agg #[Z ab ai,Z ab aj],Z ab a1,Z ab a2] w fun e w'=>e = .returned (.bool r)∧Below w.heap.size w w':=by
 have oO:=Try.underlying27
 have HB:=af.mk (Below.refl w.heap.size w)
 have H:((lv.f k ai aj).bind fun t137=>(if t137 = 0 then (if ai ≥ a1 then (some (decide (aj≤a2))) else (some false)) else (some false))) = some r:=h
 clear h
 replace H:=Option.bind_eq_some_iff.mp H
 obtain ⟨t137,ME,H⟩:=H
 replace H:(if t137 = 0 then (if ai ≥ a1 then (some (decide (aj≤a2))) else (some false)) else (some false)) = some r:=H
 have A4:=af.mk ME
 clear ME
 by_cases c5:t137 = 0
 ·rw [if_pos c5] at H
  have yt:(t137 == 0) = true:=beq_iff_eq.mpr c5
  have amd:(t137 != 0) = false:=bne_eq_false_iff_eq.mpr c5
  clear c5
  by_cases c6:ai ≥ a1
  ·rw [if_pos c6] at H
   have Du:decide (a1≤ai) = true:=decide_eq_true c6
   clear c6
   obtain rfl:=bh H
   go_enter Try.func77,Try.ntmps77
   go_wp2_with (first|((with_reducible refine av (N:=3) rfl ?_);refine ak (by rfl) (N:=3) (by rfl) (cs:=#[Z ab ai,Z ab aj]) (t:=27) fU ?_;intro azF hg w7 ay hb;have Fs:=af.mk (ay);have azG:=bY HB hg;have azH:=bY HB hg;replace HB:=dz HB hb;clear hb ay hg;obtain ⟨P9,Qa,Qb,Qc⟩:=iQ Fs.out)|((with_reducible refine aU (f:=122) rfl ?_);refine dn (some 8) rfl rfl Try.func122 aT rfl #[.agg #[Z ab ai,Z ab aj]] rfl jB ?_;(with_reducible refine (lv.calls k ai aj t137 _ A4.out).mono ?_);rintro e w9 ⟨rfl,hb⟩;refine ⟨_,rfl,?_⟩;replace Fs:=bn Fs hb;replace HB:=dz HB hb;(try clear hb);(try clear hb2);(try clear hk);(try clear hi);obtain ⟨sP,sQ,sS,sU⟩:=iQ Fs.out))
   go_ret
   exact ⟨mJ,gp⟩
  ·rw [if_neg c6] at H
   have Du:decide (a1≤ai) = false:=decide_eq_false c6
   clear c6
   obtain rfl:=bh H
   go_enter Try.func77,Try.ntmps77
   go_wp2_with (first|((with_reducible refine av (N:=3) rfl ?_);refine ak (by rfl) (N:=3) (by rfl) (cs:=#[Z ab ai,Z ab aj]) (t:=27) fU ?_;intro azF hg w11 ay hb;have Fs:=af.mk (ay);have azG:=bY HB hg;have azH:=bY HB hg;replace HB:=dz HB hb;clear hb ay hg;obtain ⟨qa,qb,qc,qd⟩:=iQ Fs.out)|((with_reducible refine aU (f:=122) rfl ?_);refine dn (some 8) rfl rfl Try.func122 aT rfl #[.agg #[Z ab ai,Z ab aj]] rfl jB ?_;(with_reducible refine (lv.calls k ai aj t137 _ A4.out).mono ?_);rintro e GK ⟨rfl,hb⟩;refine ⟨_,rfl,?_⟩;replace Fs:=bn Fs hb;replace HB:=dz HB hb;(try clear hb);(try clear hb2);(try clear hk);(try clear hi);obtain ⟨AY,AZ,Ba,Bb⟩:=iQ Fs.out))
   go_ret
   exact ⟨mJ,gp⟩
 ·rw [if_neg c5] at H
  have yt:(t137 == 0) = false:=beq_eq_false_iff_ne.mpr c5
  have amd:(t137 != 0) = true:=bne_iff_ne.mpr c5
  obtain rfl:=bh H
  go_enter Try.func77,Try.ntmps77
  go_wp2_with (first|((with_reducible refine av (N:=3) rfl ?_);refine ak (by rfl) (N:=3) (by rfl) (cs:=#[Z ab ai,Z ab aj]) (t:=27) fU ?_;intro azF hg w15 ay hb;have Fs:=af.mk (ay);have azG:=bY HB hg;have azH:=bY HB hg;replace HB:=dz HB hb;clear hb ay hg;obtain ⟨Zn,Zo,Zp,Zq⟩:=iQ Fs.out)|((with_reducible refine aU (f:=122) rfl ?_);refine dn (some 8) rfl rfl Try.func122 aT rfl #[.agg #[Z ab ai,Z ab aj]] rfl jB ?_;(with_reducible refine (lv.calls k ai aj t137 _ A4.out).mono ?_);rintro e DC ⟨rfl,hb⟩;refine ⟨_,rfl,?_⟩;replace Fs:=bn Fs hb;replace HB:=dz HB hb;(try clear hb);(try clear hb2);(try clear hk);(try clear hi)))
  go_ret
  exact ⟨mJ,gp⟩
def eD.f (k:Nat) (ai:Int) (aj:Int) (az:Int) (aA:Int) (aI:Int) (aD:Int) (aJ:Int):Option (Int):=(cz.f ai 0 5000).bind fun t139=>(if t139 = true then ((cz.f aj 1 131072).bind fun t140=>(if t140 = true then ((cK.f k az aA 0 1073741824).bind fun t141=>(if t141 = true then ((cK.f k aI aD 0 1073741824).bind fun t142=>(if t142 = true then ((cz.f aJ 0 1073741824).bind fun t143=>(if t143 = true then (some 0) else (some 2))) else (some 2))) else (some 2))) else (some 2))) else (some 2))
theorem eD.mono:∀ a0 a1 a2 a3 a4 a5 a6 k,oV (eD.f k a0 a1 a2 a3 a4 a5 a6) (eD.f (k+1) a0 a1 a2 a3 a4 a5 a6):=by
 intro a0 a1 a2 a3 a4 a5 a6 k
 unfold eD.f
 repeat' first
  |(with_reducible exact cK.mono _ _ _ _ _)
  |(with_reducible exact oV.refl _)
  |(with_reducible exact oV.none _)
  |(with_reducible refine oV.ite ?_ ?_)
  |(with_reducible refine oV.bind ?_ (fun _=>?_))
  |exact cK.mono _ _ _ _ _
  |exact oV.none _
  |refine oV.ite ?_ ?_
  |refine oV.bind ?_ (fun _=>?_)
theorem eD.calls (k:Nat) (ai:Int) (aj:Int) (az:Int) (aA:Int) (aI:Int) (aD:Int) (aJ:Int) (r:Int) (w:ao) (h:eD.f k ai aj az aA aI aD aJ = some r):
 Calls Try.prog 27 #[.agg #[Z ab ai,Z ab aj,Z ab az,Z ab aA,Z ab aI,Z ab aD,Z ab aJ]] w fun e w'=>e = .returned (Z ab r)∧Below w.heap.size w w':=by
 have vo:=Try.underlying29
 have oO:=Try.underlying27
 have HB:=af.mk (Below.refl w.heap.size w)
 have H:((cz.f ai 0 5000).bind fun t139=>(if t139 = true then ((cz.f aj 1 131072).bind fun t140=>(if t140 = true then ((cK.f k az aA 0 1073741824).bind fun t141=>(if t141 = true then ((cK.f k aI aD 0 1073741824).bind fun t142=>(if t142 = true then ((cz.f aJ 0 1073741824).bind fun t143=>(if t143 = true then (some 0) else (some 2))) else (some 2))) else (some 2))) else (some 2))) else (some 2))) = some r:=h
 clear h
 replace H:=Option.bind_eq_some_iff.mp H
 obtain ⟨t139,Yg,H⟩:=H
 replace H:(if t139 = true then ((cz.f aj 1 131072).bind fun t140=>(if t140 = true then ((cK.f k az aA 0 1073741824).bind fun t141=>(if t141 = true then ((cK.f k aI aD 0 1073741824).bind fun t142=>(if t142 = true then ((cz.f aJ 0 1073741824).bind fun t143=>(if t143 = true then (some 0) else (some 2))) else (some 2))) else (some 2))) else (some 2))) else (some 2)) = some r:=H
 have A2:=af.mk Yg
 clear Yg
 by_cases c3:t139 = true
 ·subst c3
  have H1:((cz.f aj 1 131072).bind fun t140=>(if t140 = true then ((cK.f k az aA 0 1073741824).bind fun t141=>(if t141 = true then ((cK.f k aI aD 0 1073741824).bind fun t142=>(if t142 = true then ((cz.f aJ 0 1073741824).bind fun t143=>(if t143 = true then (some 0) else (some 2))) else (some 2))) else (some 2))) else (some 2))) = some r:=by rw [if_pos rfl] at H;exact H
  clear H
  have H:=H1
  clear H1
  replace H:=Option.bind_eq_some_iff.mp H
  obtain ⟨t140,ME,H⟩:=H
  replace H:(if t140 = true then ((cK.f k az aA 0 1073741824).bind fun t141=>(if t141 = true then ((cK.f k aI aD 0 1073741824).bind fun t142=>(if t142 = true then ((cz.f aJ 0 1073741824).bind fun t143=>(if t143 = true then (some 0) else (some 2))) else (some 2))) else (some 2))) else (some 2)) = some r:=H
  have A4:=af.mk ME
  clear ME
  by_cases c5:t140 = true
  ·subst c5
   have H1:((cK.f k az aA 0 1073741824).bind fun t141=>(if t141 = true then ((cK.f k aI aD 0 1073741824).bind fun t142=>(if t142 = true then ((cz.f aJ 0 1073741824).bind fun t143=>(if t143 = true then (some 0) else (some 2))) else (some 2))) else (some 2))) = some r:=by rw [if_pos rfl] at H;exact H
   clear H
   have H:=H1
   clear H1
   replace H:=Option.bind_eq_some_iff.mp H
   obtain ⟨t141,Nn,H⟩:=H
   replace H:(if t141 = true then ((cK.f k aI aD 0 1073741824).bind fun t142=>(if t142 = true then ((cz.f aJ 0 1073741824).bind fun t143=>(if t143 = true then (some 0) else (some 2))) else (some 2))) else (some 2)) = some r:=H
   have A6:=af.mk Nn
   clear Nn
   by_cases c7:t141 = true
   ·subst c7
    have H1:((cK.f k aI aD 0 1073741824).bind fun t142=>(if t142 = true then ((cz.f aJ 0 1073741824).bind fun t143=>(if t143 = true then (some 0) else (some 2))) else (some 2))) = some r:=by rw [if_pos rfl] at H;exact H
    clear H
    have H:=H1
    clear H1
    replace H:=Option.bind_eq_some_iff.mp H
    obtain ⟨t142,Rq,H⟩:=H
    replace H:(if t142 = true then ((cz.f aJ 0 1073741824).bind fun t143=>(if t143 = true then (some 0) else (some 2))) else (some 2)) = some r:=H
    have A8:=af.mk Rq
    clear Rq
    by_cases c9:t142 = true
    ·subst c9
     have H1:((cz.f aJ 0 1073741824).bind fun t143=>(if t143 = true then (some 0) else (some 2))) = some r:=by rw [if_pos rfl] at H;exact H
     clear H
     have H:=H1
     clear H1
     replace H:=Option.bind_eq_some_iff.mp H
     obtain ⟨t143,Fu,H⟩:=H
     replace H:(if t143 = true then (some 0) else (some 2)) = some r:=H
     have Rs:=af.mk Fu
     clear Fu
     by_cases c11:t143 = true
     ·subst c11
      have H1:(some 0) = some r:=by rw [if_pos rfl] at H;exact H
      clear H
      have H:=H1
      clear H1
      obtain rfl:=bh H
      go_enter Try.func27,Try.ntmps27
      go_wp2_with (first|((with_reducible refine av (N:=1) rfl ?_);refine ak (by rfl) (N:=1) (by rfl) (cs:=#[Z ab ai,Z ab aj,Z ab az,Z ab aA,Z ab aI,Z ab aD,Z ab aJ]) (t:=29) fU ?_;intro adg hg Ja ay hb;have oZ:=af.mk (ay);have adh:=bY HB hg;have adi:=bY HB hg;replace HB:=dz HB hb;clear hb ay hg;obtain ⟨sV,sW,zw,zx,GL,GM,Np,sZ,tq,zy,zz,GN,GQ,Nq⟩:=kz oZ.out)|((with_reducible refine aU (f:=74) rfl ?_);refine dn (some 5) rfl rfl Try.func74 aT rfl #[Z ab ai,Z ab 0,Z ab 5000] rfl jB ?_;(with_reducible refine (cz.calls ai 0 5000 true _ A2.out).mono ?_);rintro e w' ⟨rfl,⟨nd,rfl⟩⟩;refine ⟨_,rfl,?_⟩)|(go_at_call 74;(with_reducible refine (cz.calls aj 1 131072 true _ A4.out).mono ?_);rintro e w' ⟨rfl,⟨nd,rfl⟩⟩)|(go_at_call 77;(with_reducible refine (cK.calls k az aA 0 1073741824 true _ A6.out).mono ?_);rintro e w14 ⟨rfl,hb⟩;replace oZ:=bn oZ hb;replace HB:=dz HB hb;(try clear hb);(try clear hb2);(try clear hk);(try clear hi);obtain ⟨oG,oH,rH,rJ,tu,tC,zA,oI,oJ,rM,rO,tF,tH,zB⟩:=kz oZ.out)|(go_at_call 77;(with_reducible refine (cK.calls k aI aD 0 1073741824 true _ A8.out).mono ?_);rintro e w16 ⟨rfl,hb⟩;replace oZ:=bn oZ hb;replace HB:=dz HB hb;(try clear hb);(try clear hb2);(try clear hk);(try clear hi);obtain ⟨tJ,tK,wH,wI,DD,DF,Kz,tL,tN,wJ,wK,DI,DJ,KA⟩:=kz oZ.out)|(go_at_call 74;(with_reducible refine (cz.calls aJ 0 1073741824 true _ Rs.out).mono ?_);rintro e w' ⟨rfl,⟨nd,rfl⟩⟩))
      go_ret
      exact ⟨mJ,gp⟩
     ·replace c11:=Bool.eq_false_iff.mpr c11
      subst c11
      have H1:(some 2) = some r:=by rw [if_neg (show ¬ (false = true) by decide)] at H;exact H
      clear H
      have H:=H1
      clear H1
      obtain rfl:=bh H
      go_enter Try.func27,Try.ntmps27
      go_wp2_with (first|((with_reducible refine av (N:=1) rfl ?_);refine ak (by rfl) (N:=1) (by rfl) (cs:=#[Z ab ai,Z ab aj,Z ab az,Z ab aA,Z ab aI,Z ab aD,Z ab aJ]) (t:=29) fU ?_;intro adg hg w18 ay hb;have oZ:=af.mk (ay);have adh:=bY HB hg;have adi:=bY HB hg;replace HB:=dz HB hb;clear hb ay hg;obtain ⟨uR,uS,wL,wM,Bc,Bd,GR,uT,uU,wN,wO,Be,Bf,GU⟩:=kz oZ.out)|((with_reducible refine aU (f:=74) rfl ?_);refine dn (some 5) rfl rfl Try.func74 aT rfl #[Z ab ai,Z ab 0,Z ab 5000] rfl jB ?_;(with_reducible refine (cz.calls ai 0 5000 true _ A2.out).mono ?_);rintro e w' ⟨rfl,⟨nd,rfl⟩⟩;refine ⟨_,rfl,?_⟩)|(go_at_call 74;(with_reducible refine (cz.calls aj 1 131072 true _ A4.out).mono ?_);rintro e w' ⟨rfl,⟨nd,rfl⟩⟩)|(go_at_call 77;(with_reducible refine (cK.calls k az aA 0 1073741824 true _ A6.out).mono ?_);rintro e Jb ⟨rfl,hb⟩;replace oZ:=bn oZ hb;replace HB:=dz HB hb;(try clear hb);(try clear hb2);(try clear hk);(try clear hi);obtain ⟨tO,tQ,DK,DL,DN,DR,DT,tT,tV,DU,DV,DW,DX,DY⟩:=kz oZ.out)|(go_at_call 77;(with_reducible refine (cK.calls k aI aD 0 1073741824 true _ A8.out).mono ?_);rintro e w22 ⟨rfl,hb⟩;replace oZ:=bn oZ hb;replace HB:=dz HB hb;(try clear hb);(try clear hb2);(try clear hk);(try clear hi);obtain ⟨Bg,Bh,GV,GX,GY,GZ,KC,Bi,Bj,G5,G6,G7,G8,KD⟩:=kz oZ.out)|(go_at_call 74;(with_reducible refine (cz.calls aJ 0 1073741824 false _ Rs.out).mono ?_);rintro e w' ⟨rfl,⟨nd,rfl⟩⟩))
      go_ret
      exact ⟨mJ,gp⟩
    ·replace c9:=Bool.eq_false_iff.mpr c9
     subst c9
     have H1:(some 2) = some r:=by rw [if_neg (show ¬ (false = true) by decide)] at H;exact H
     clear H
     have H:=H1
     clear H1
     obtain rfl:=bh H
     go_enter Try.func27,Try.ntmps27
     go_wp2_with (first|((with_reducible refine av (N:=1) rfl ?_);refine ak (by rfl) (N:=1) (by rfl) (cs:=#[Z ab ai,Z ab aj,Z ab az,Z ab aA,Z ab aI,Z ab aD,Z ab aJ]) (t:=29) fU ?_;intro adg hg w24 ay hb;have oZ:=af.mk (ay);have adh:=bY HB hg;have adi:=bY HB hg;replace HB:=dz HB hb;clear hb ay hg;obtain ⟨zC,zD,DZ,D5,KE,KF,KG,zF,zG,D6,D7,KH,KI,KJ⟩:=kz oZ.out)|((with_reducible refine aU (f:=74) rfl ?_);refine dn (some 5) rfl rfl Try.func74 aT rfl #[Z ab ai,Z ab 0,Z ab 5000] rfl jB ?_;(with_reducible refine (cz.calls ai 0 5000 true _ A2.out).mono ?_);rintro e w' ⟨rfl,⟨nd,rfl⟩⟩;refine ⟨_,rfl,?_⟩)|(go_at_call 74;(with_reducible refine (cz.calls aj 1 131072 true _ A4.out).mono ?_);rintro e w' ⟨rfl,⟨nd,rfl⟩⟩)|(go_at_call 77;(with_reducible refine (cK.calls k az aA 0 1073741824 true _ A6.out).mono ?_);rintro e vG ⟨rfl,hb⟩;replace oZ:=bn oZ hb;replace HB:=dz HB hb;(try clear hb);(try clear hb2);(try clear hk);(try clear hi);obtain ⟨Bl,Bn,Bo,Bp,D8,D9,Ea,Bq,Br,Bt,Bu,Eb,Ec,Ed⟩:=kz oZ.out)|(go_at_call 77;(with_reducible refine (cK.calls k aI aD 0 1073741824 false _ A8.out).mono ?_);rintro e w28 ⟨rfl,hb⟩;replace oZ:=bn oZ hb;replace HB:=dz HB hb;(try clear hb);(try clear hb2);(try clear hk);(try clear hi)))
     go_ret
     exact ⟨mJ,gp⟩
   ·replace c7:=Bool.eq_false_iff.mpr c7
    subst c7
    have H1:(some 2) = some r:=by rw [if_neg (show ¬ (false = true) by decide)] at H;exact H
    clear H
    have H:=H1
    clear H1
    obtain rfl:=bh H
    go_enter Try.func27,Try.ntmps27
    go_wp2_with (first|((with_reducible refine av (N:=1) rfl ?_);refine ak (by rfl) (N:=1) (by rfl) (cs:=#[Z ab ai,Z ab aj,Z ab az,Z ab aA,Z ab aI,Z ab aD,Z ab aJ]) (t:=29) fU ?_;intro adg hg w29 ay hb;have oZ:=af.mk (ay);have adh:=bY HB hg;have adi:=bY HB hg;replace HB:=dz HB hb;clear hb ay hg;obtain ⟨Ee,Ef,G9,Ha,Nr,Ns,Nt,Eg,Eh,Hd,He,Nu,Nv,Nw⟩:=kz oZ.out)|((with_reducible refine aU (f:=74) rfl ?_);refine dn (some 5) rfl rfl Try.func74 aT rfl #[Z ab ai,Z ab 0,Z ab 5000] rfl jB ?_;(with_reducible refine (cz.calls ai 0 5000 true _ A2.out).mono ?_);rintro e w' ⟨rfl,⟨nd,rfl⟩⟩;refine ⟨_,rfl,?_⟩)|(go_at_call 74;(with_reducible refine (cz.calls aj 1 131072 true _ A4.out).mono ?_);rintro e w' ⟨rfl,⟨nd,rfl⟩⟩)|(go_at_call 77;(with_reducible refine (cK.calls k az aA 0 1073741824 false _ A6.out).mono ?_);rintro e w31 ⟨rfl,hb⟩;replace oZ:=bn oZ hb;replace HB:=dz HB hb;(try clear hb);(try clear hb2);(try clear hk);(try clear hi)))
    go_ret
    exact ⟨mJ,gp⟩
  ·replace c5:=Bool.eq_false_iff.mpr c5
   subst c5
   have H1:(some 2) = some r:=by rw [if_neg (show ¬ (false = true) by decide)] at H;exact H
   clear H
   have H:=H1
   clear H1
   obtain rfl:=bh H
   go_enter Try.func27,Try.ntmps27
   go_wp2_with (first|((with_reducible refine av (N:=1) rfl ?_);refine ak (by rfl) (N:=1) (by rfl) (cs:=#[Z ab ai,Z ab aj,Z ab az,Z ab aA,Z ab aI,Z ab aD,Z ab aJ]) (t:=29) fU ?_;intro adg hg w32 ay hb;have oZ:=af.mk (ay);have adh:=bY HB hg;have adi:=bY HB hg;replace HB:=dz HB hb;clear hb ay hg;obtain ⟨Ny,Nz,ahN,ahO,ahP,ahQ,ahR,NA,NB,ahS,ahT,ahU,ahV,ahW⟩:=kz oZ.out)|((with_reducible refine aU (f:=74) rfl ?_);refine dn (some 5) rfl rfl Try.func74 aT rfl #[Z ab ai,Z ab 0,Z ab 5000] rfl jB ?_;(with_reducible refine (cz.calls ai 0 5000 true _ A2.out).mono ?_);rintro e w' ⟨rfl,⟨nd,rfl⟩⟩;refine ⟨_,rfl,?_⟩)|(go_at_call 74;(with_reducible refine (cz.calls aj 1 131072 false _ A4.out).mono ?_);rintro e w' ⟨rfl,⟨nd,rfl⟩⟩))
   go_ret
   exact ⟨mJ,gp⟩
 ·replace c3:=Bool.eq_false_iff.mpr c3
  subst c3
  have H1:(some 2) = some r:=by rw [if_neg (show ¬ (false = true) by decide)] at H;exact H
  clear H
  have H:=H1
  clear H1
  obtain rfl:=bh H
  go_enter Try.func27,Try.ntmps27
  go_wp2_with (first|((with_reducible refine av (N:=1) rfl ?_);refine ak (by rfl) (N:=1) (by rfl) (cs:=#[Z ab ai,Z ab aj,Z ab az,Z ab aA,Z ab aI,Z ab aD,Z ab aJ]) (t:=29) fU ?_;intro adg hg w34 ay hb;have oZ:=af.mk (ay);have adh:=bY HB hg;have adi:=bY HB hg;replace HB:=dz HB hb;clear hb ay hg;obtain ⟨zH,zI,Ei,Ej,KL,KM,KN,zJ,zK,El,Em,KO,KP,KQ⟩:=kz oZ.out)|((with_reducible refine aU (f:=74) rfl ?_);refine dn (some 5) rfl rfl Try.func74 aT rfl #[Z ab ai,Z ab 0,Z ab 5000] rfl jB ?_;(with_reducible refine (cz.calls ai 0 5000 false _ A2.out).mono ?_);rintro e w' ⟨rfl,⟨nd,rfl⟩⟩;refine ⟨_,rfl,?_⟩))
  go_ret
  exact ⟨mJ,gp⟩
end Go.Proofs.Ytmhaiihjfgfaoaa.Pr
end
