import Derived.SizedLaws
import Derived.ChangeSlices
import Derived.Deep.Slices
import Derived.ChangeArms
import Derived.DataReads
import Derived.WideShapes
import Derived.Test.YtmhaiihjfgfaoaaGnGliderNever3
import Derived.Test.YtmhaiihjfgfaoaaGnGliderNever15
import Derived.Test.YtmhaiihjfgfaoaaGnGliderNever20
import Derived.Test.YtmhaiihjfgfaoaaGnGliderNever26
import Derived.Test.YtmhaiihjfgfaoaaGnGliderNever6
set_option linter.unusedSimpArgs false
set_option linter.unusedVariables false
section
namespace Go.Proofs.YtmhaiihjfgfaoaaW.PrintWords
open Go.ChangeShapes Go.WideShapes
end Go.Proofs.YtmhaiihjfgfaoaaW.PrintWords
end
section
namespace Go.Proofs.YtmhaiihjfgfaoaaW.eu
open Go.RowKit Go.Proofs.YtmhaiihjfgfaoaaW.PrintWords Go.Deep Go.ChangeShapes Go.WideShapes
set_option linter.unusedVariables false
section
variable {H:Type} {enc:TypeId × Value→H} {P:Program}
def eu {α:Type} (enc:TypeId × Value→H) (P:Program) (t:TypeId) (K:Kd α) (G:α→Prop):Prop :=
 ∀ (w:World) (fuel:Nat) (cs:List Value) (x:DataW H × List MemPlace),DataW.trod enc P w 0 (fun _=>true) true fuel t cs = some x→(DataW.weights P t x.1).all (·≤reachBytes) = true→∃ y,K.K w y cs∧G y
theorem eu.int {t:TypeId} {k:IntKind} (hu:P.underlying t = some (.int k)):eu enc P t (Kd.int k) (fun n=>(Lit.int k n).wf = true):=by
 intro w fuel cs x h _
 cases fuel with
 |zero=>simp [DataW.trod] at h
 |succ n =>
  unfold DataW.trod at h
  rw [hu] at h
  split at h <;> simp_all
  obtain ⟨⟨rfl,hw⟩,_⟩:=h
  rename_i n _ _
  exact ⟨_,rfl,hw⟩
theorem eu.bool {t:TypeId} (hu:P.underlying t = some .bool):eu enc P t Kd.bool (fun _=>True):=by
 intro w fuel cs x h _
 cases fuel with
 |zero=>simp [DataW.trod] at h
 |succ n =>
  unfold DataW.trod at h
  rw [hu] at h
  split at h <;> simp_all
  rename_i b _
  cases b
  ·exact .inl rfl
  ·exact .inr rfl
def eU {α:Type} (enc:TypeId × Value→H) (P:Program) (off:Nat) (fs:List Field) (K:Kd α) (G:α→Prop):Prop :=
 ∀ (w:World) (fuel:Nat) (cs:List Value) (xs:List (DataW H × List MemPlace)),cs.length = off+K.sz→xs.length = fs.length→
  (∀ (i:Nat) (f:Field),fs[i]? = some f→DataW.trod enc P w 0 (fun _=>true) true fuel f.type ((cs.drop f.offset).take (P.cellsOf f.type)) = xs[i]?)→
  (DataW.weightsEach P (fs.map (·.type)) (xs.map (·.1))).all (·≤reachBytes) = true→∃ y,K.K w y (cs.drop off)∧G y
theorem eU.one {α:Type} {off:Nat} {f:Field} {K:Kd α} {G:α→Prop} (hoff:f.offset = off) (hsz:P.cellsOf f.type = K.sz) (h:eu enc P f.type K G):eU enc P off [f] K G:=by
 intro w fuel cs xs hl hx hi hw
 obtain ⟨x,rfl⟩:∃ x,xs = [x]:=by
  match xs,hx with
  |[x],_=>exact ⟨x,rfl⟩
 have h1:=hi 0 f rfl
 rw [hoff,hsz,List.take_of_length_le (by simp;omega)] at h1
 exact h w fuel _ x h1 (by simpa [DataW.weightsEach] using hw)
theorem eU.cons {α β:Type} {off:Nat} {f:Field} {fs:List Field} {K:Kd α} {G:α→Prop} {K':Kd β} {G':β→Prop} (hoff:f.offset = off) (hsz:P.cellsOf f.type = K.sz) (h:eu enc P f.type K G) (h':eU enc P (off+K.sz) fs K' G'):
 eU enc P off (f :: fs) (Kd.pair K K') (fun y=>G y.1∧G' y.2):=by
 intro w fuel cs xs hl hx hi hw
 obtain ⟨x,xs',rfl⟩:∃ x xs',xs = x :: xs':=by
  match xs,hx with
  |x :: xs',_=>exact ⟨x,xs',rfl⟩
 have hl2:cs.length = off+(K.sz+K'.sz):=hl
 have h1:=hi 0 f rfl
 rw [hoff,hsz] at h1
 simp only [List.map_cons,DataW.weightsEach,List.all_append,Bool.and_eq_true] at hw
 obtain ⟨y,hy,gy⟩:=h w fuel _ x h1 hw.1
 obtain ⟨y',hy',gy'⟩:=h' w fuel cs xs' (by omega) (by simpa using hx) (fun i g hg=>by simpa using hi (i+1) g (by simpa using hg)) hw.2
 refine ⟨(y,y'),⟨_,_,?_,hy,hy'⟩,gy,gy'⟩
 rw [← List.drop_drop,List.take_append_drop]
theorem eu.struct {α β:Type} {t:TypeId} {fs:Array Field} {K:Kd α} {G:α→Prop} {f:β→α} (g:α→β) (hu:P.underlying t = some (.struct fs)) (hsz:P.cellsOf t = K.sz) (hg:∀ y,f (g y) = y) (h:eU enc P 0 fs.toList K G):
 eu enc P t (Kd.iso K f) (fun z=>G (f z)):=by
 intro w fuel cs x hx hw
 obtain ⟨xs,n,rfl,rfl,hl,hxl,hi⟩:=DataW.trod_struct hu hx
 obtain ⟨y,hy,gy⟩:=h w n cs xs (by omega) (by simpa using hxl) (fun i f hf=>hi i f (by simpa using hf)) (by simpa [DataW.weights,hu] using hw)
 refine ⟨g y,?_,by show G (f (g y));rw [hg];exact gy⟩
 show K.K w (f (g y)) cs
 rw [hg]
 simpa using hy
theorem Rk {α:Type} {Q:Nat→α→Prop}:∀ (n:Nat),(∀ i,i < n→∃ y,Q i y)→∃ ys:List α,ys.length = n∧∀ i y,ys[i]? = some y→Q i y
 |0,_=>⟨[],rfl,fun i y h=>by simp at h⟩
 |n+1,h=>by
  obtain ⟨ys,hl,hq⟩:=Rk n (fun i hi=>h i (by omega))
  obtain ⟨y,hy⟩:=h n (by omega)
  refine ⟨ys++[y],by simp [hl],fun i z hz=>?_⟩
  rw [List.getElem?_append] at hz
  split at hz
  ·exact hq i z hz
  ·rename_i hi
   obtain rfl:i = n:=by
    have:=(List.getElem?_eq_some_iff.1 hz).1
    simp at this
    omega
   simp [hl] at hz
   exact hz ▸ hy
theorem Dh {e:TypeId}:∀ {ds:List (DataW H)} {d:DataW H},(DataW.weightsAll P e ds).all (·≤reachBytes) = true→d ∈ ds→(DataW.weights P e d).all (·≤reachBytes) = true
 |[],_,_,h=>by cases h
 |a :: r,d,hw,h=>by
  simp only [DataW.weightsAll,List.all_append,Bool.and_eq_true] at hw
  rcases List.mem_cons.1 h with rfl|h
  ·exact hw.1
  ·exact Dh hw.2 h
theorem eu.slice {α:Type} {t e:TypeId} (e':Nat) {K:Kd α} {G:α→Prop} (hu:P.underlying t = some (.slice e)) (hsz:P.cellsOf e = K.sz) (h:eu enc P e K G):
 eu enc P t (Kd.slice e' K) (fun ys=>(∀ y ∈ ys,G y)∧ys.length*P.bytesOf e≤reachBytes):=by
 intro w fuel cs x hx hw
 rcases open_slice hu hx with ⟨rfl,rfl⟩|⟨a,len,cap,m,n,D,Pl,rfl,hb,hl,hm,hmm,rfl,hi⟩
 ·exact ⟨[],⟨none,0,rfl,by simp,⟨rfl,by simp,fun h=>by simp at h⟩⟩,by simp,by simp⟩
 ·have hmc:m = cap:=by simpa using hmm
  subst hmc
  simp only [DataW.weights,hu,List.all_cons,List.all_append,Bool.and_eq_true,decide_eq_true_eq,List.length_map,List.length_range] at hw
  obtain ⟨ys,hyl,hys⟩:=Rk (Q:=fun i y=>(∃ cs',w.cells? 0 (a.add (i*P.cellsOf e)) (P.cellsOf e) = some cs'∧K.K w y cs')∧G y) len (fun i hil=>by
   obtain ⟨cs',hc,ht⟩:=hi i (by omega)
   obtain ⟨y,hy,gy⟩:=h w n cs' _ ht (Dh hw.2.1 (List.mem_map.2 ⟨i,List.mem_range.2 hil,rfl⟩))
   exact ⟨y,⟨cs',hc,hy⟩,gy⟩)
  refine ⟨ys,⟨some a,m,by rw [hyl],by omega,hyl.trans hyl.symm |>.trans (by rfl),?_,fun _=>⟨a,rfl,fun j p hj=>?_⟩⟩,fun y hy=>?_,?_⟩
  ·unfold maxLen at hm
   omega
  ·obtain ⟨⟨cs',hc,hk⟩,_⟩:=hys j p hj
   obtain ⟨_,hcl,hcell⟩:=World.cells?_some hc
   refine ⟨cs',by rw [hcl,hsz],hk,fun i u hu'=>?_⟩
   have hlt:=(List.getElem?_eq_some_iff.1 hu').1
   rw [← Go.Deep.add_add,← hsz,hcell i (by omega),hu']
  ·obtain ⟨j,hj⟩:=List.getElem?_of_mem hy
   exact (hys j y hj).2
  ·refine Nat.le_trans (Nat.mul_le_mul_right _ (show ys.length≤len+(m - len) by omega)) hw.1
theorem eu.arg {α:Type} {t:TypeId} {K:Kd α} {G:α→Prop} (h:eu enc P t K G) {w:World} {v:Value} {d:DataW H} {p:List MemPlace} (ht:DataW.Trod enc P w 0 (fun _=>true) true t v d p)
 {ts:List TypeId} {ds:List (DataW H)} (hsz:(DataW.weightsEach P ts ds).all (·≤reachBytes) = true) {j:Nat} (hj:ts[j]? = some t) (hd:ds[j]? = some d):∃ y,K.K w y v.cells.toList∧G y:=by
 obtain ⟨fuel,hf⟩:=ht
 exact h w fuel _ _ hf (List.all_eq_true.2 fun n hn=>List.all_eq_true.1 hsz _ (DataW.weights_mem_each hj hd n hn))
end
end Go.Proofs.YtmhaiihjfgfaoaaW.eu
end
section
namespace Go.Proofs.Ytmhaiihjfgfaoaa.Good
open Go.RowKit Go.Proofs.YtmhaiihjfgfaoaaW.PrintWords Go.Proofs.YtmhaiihjfgfaoaaW.PrintLast Go.Proofs.YtmhaiihjfgfaoaaW.PrintMore Go.Proofs.Ytmhaiihjfgfaoaa.Pr Go.Proofs.YtmhaiihjfgfaoaaW.eu
set_option linter.unusedVariables false
def W27 (x:gm):Prop:=(Lit.int .i64 x.f0).wf = true∧(Lit.int .i64 x.f1).wf = true
theorem BF {H:Type} {enc:TypeId × Value→H}:eu enc Try.prog 27 k27 W27:=eu.struct (fun p=>⟨p.1,p.2⟩) Try.underlying27 aT (fun _=>rfl) (eU.cons rfl aT (eu.int Try.underlying2) (eU.one rfl aT (eu.int Try.underlying2)))
def W40 (x:qW):Prop:=W27 x.f0∧W27 x.f1
theorem amm {H:Type} {enc:TypeId × Value→H}:eu enc Try.prog 40 Cm W40:=eu.struct (fun p=>⟨p.1,p.2⟩) Try.underlying40 aT (fun _=>rfl) (eU.cons rfl aT BF (eU.one rfl aT BF))
def W25 (x:S25):Prop:=(Lit.int .i64 x.f0).wf = true∧(Lit.int .i64 x.f1).wf = true∧(Lit.int .i64 x.f2).wf = true∧(Lit.int .i64 x.f3).wf = true∧(Lit.int .i64 x.f4).wf = true∧(Lit.int .i64 x.f5).wf = true∧(Lit.int .i64 x.f6).wf = true∧((∀ y ∈ x.f7,True)∧x.f7.length*Try.prog.bytesOf 4≤reachBytes)∧((∀ y ∈ x.f8,W40 y)∧x.f8.length*Try.prog.bytesOf 40≤reachBytes)
theorem amn {H:Type} {enc:TypeId × Value→H}:eu enc Try.prog 25 k25 W25:=eu.struct (fun p=>⟨p.1,p.2.1,p.2.2.1,p.2.2.2.1,p.2.2.2.2.1,p.2.2.2.2.2.1,p.2.2.2.2.2.2.1,p.2.2.2.2.2.2.2.1,p.2.2.2.2.2.2.2.2⟩) Try.underlying25 aT (fun _=>rfl) (eU.cons rfl aT (eu.int Try.underlying3) (eU.cons rfl aT (eu.int Try.underlying3) (eU.cons rfl aT (eu.int Try.underlying2) (eU.cons rfl aT (eu.int Try.underlying2) (eU.cons rfl aT (eu.int Try.underlying3) (eU.cons rfl aT (eu.int Try.underlying3) (eU.cons rfl aT (eu.int Try.underlying2) (eU.cons rfl aT (eu.slice 4 Try.underlying22 aT (eu.bool Try.underlying4)) (eU.one rfl aT (eu.slice 40 Try.underlying23 aT amm))))))))))
def W29 (x:S29):Prop:=(Lit.int .i64 x.f0).wf = true∧(Lit.int .i64 x.f1).wf = true∧W27 x.f2∧W27 x.f3∧(Lit.int .i64 x.f4).wf = true
theorem amo {H:Type} {enc:TypeId × Value→H}:eu enc Try.prog 29 k29 W29:=eu.struct (fun p=>⟨p.1,p.2.1,p.2.2.1,p.2.2.2.1,p.2.2.2.2⟩) Try.underlying29 aT (fun _=>rfl) (eU.cons rfl aT (eu.int Try.underlying2) (eU.cons rfl aT (eu.int Try.underlying2) (eU.cons rfl aT BF (eU.cons rfl aT BF (eU.one rfl aT (eu.int Try.underlying2))))))
def W31 (x:cZ):Prop:=W27 x.f0∧W27 x.f1
theorem aew {H:Type} {enc:TypeId × Value→H}:eu enc Try.prog 31 Qe W31:=eu.struct (fun p=>⟨p.1,p.2⟩) Try.underlying31 aT (fun _=>rfl) (eU.cons rfl aT BF (eU.one rfl aT BF))
def W33 (x:eQ):Prop:=(Lit.int .i64 x.f0).wf = true∧(Lit.int .i64 x.f1).wf = true
theorem amq {H:Type} {enc:TypeId × Value→H}:eu enc Try.prog 33 TP W33:=eu.struct (fun p=>⟨p.1,p.2⟩) Try.underlying33 aT (fun _=>rfl) (eU.cons rfl aT (eu.int Try.underlying3) (eU.one rfl aT (eu.int Try.underlying3)))
def W81 (x:xz):Prop:=W31 x.f0∧(Lit.int .i64 x.f1).wf = true∧(Lit.int .i64 x.f2).wf = true
theorem amr {H:Type} {enc:TypeId × Value→H}:eu enc Try.prog 81 k81 W81:=eu.struct (fun p=>⟨p.1,p.2.1,p.2.2⟩) Try.underlying81 aT (fun _=>rfl) (eU.cons rfl aT aew (eU.cons rfl aT (eu.int Try.underlying2) (eU.one rfl aT (eu.int Try.underlying2))))
end Go.Proofs.Ytmhaiihjfgfaoaa.Good
end
section
namespace Go.Proofs.Ytmhaiihjfgfaoaa.Gl
open Go.RowKit Go.Proofs.YtmhaiihjfgfaoaaW.PrintWords Go.Proofs.YtmhaiihjfgfaoaaW.PrintLast Go.Proofs.YtmhaiihjfgfaoaaW.PrintMore Go.Proofs.Ytmhaiihjfgfaoaa.Pr
set_option linter.unusedVariables false
def jF (a b:cZ):Prop:=b.f0.f0≤a.f0.f0∧a.f0.f1≤b.f0.f1∧b.f1.f0≤a.f1.f0∧a.f1.f1≤b.f1.f1
theorem jF.rfl' (a:cZ):jF a a:=⟨Int.le_refl _,Int.le_refl _,Int.le_refl _,Int.le_refl _⟩
theorem jF.trans {a b c:cZ} (h:jF a b) (k:jF b c):jF a c:=by unfold jF at*;omega
theorem IX {a b:cZ}:jF a (mW a b)∧jF b (mW a b):=by
 unfold jF mW
 dsimp only
 omega
theorem agm {a b c:cZ} (h:jF a c) (k:jF b c):jF (mW a b) c:=by
 unfold jF mW at*
 dsimp only
 omega
theorem SX:∀ (l:List cZ) (z:cZ),∃ y,l.foldl Ya (some z) = some y∧(jF z y∧∀ a ∈ l,jF a y)∧∀ b,jF z b→(∀ a ∈ l,jF a b)→jF y b
 |[],z=>⟨z,rfl,⟨jF.rfl' z,fun a h=>by cases h⟩,fun b h _=>h⟩
 |x :: l,z=>by
  obtain ⟨y,h,⟨h1,h2⟩,h3⟩:=SX l (mW z x)
  refine ⟨y,h,⟨IX.1.trans h1,fun a ha=>?_⟩,fun b hb hl=>h3 b (agm hb (hl x (List.mem_cons_self ..))) fun a ha=>hl a (List.mem_cons_of_mem _ ha)⟩
  rcases List.mem_cons.1 ha with rfl|ha
  ·exact IX.2.trans h1
  ·exact h2 a ha
theorem aex {l:List cZ} (h:l≠[]):∃ y,qa l = some y∧(∀ a ∈ l,jF a y)∧∀ b,(∀ a ∈ l,jF a b)→jF y b:=by
 cases l with
 |nil=>exact absurd rfl h
 |cons x l =>
  obtain ⟨y,h,⟨h1,h2⟩,h3⟩:=SX l x
  refine ⟨y,h,fun a ha=>?_,fun b hl=>h3 b (hl x (List.mem_cons_self ..)) fun a ha=>hl a (List.mem_cons_of_mem _ ha)⟩
  rcases List.mem_cons.1 ha with rfl|ha
  ·exact h1
  ·exact h2 a ha
theorem agn {l l':List cZ} (h:l≠[]) (hs:∀ a ∈ l,∃ b ∈ l',jF a b):jF (jP l) (jP l'):=by
 obtain ⟨y,e,h1,h2⟩:=aex h
 have h':l'≠[]:=by
  intro e'
  cases l with
  |nil=>exact h rfl
  |cons x l =>
   obtain ⟨b,hb,_⟩:=hs x (List.mem_cons_self ..)
   rw [e'] at hb;cases hb
 obtain ⟨y',e',h1',h2'⟩:=aex h'
 unfold jP
 rw [e,e']
 exact h2 y' fun a ha=>by
  obtain ⟨b,hb,hs⟩:=hs a ha
  exact hs.trans (h1' b hb)
theorem ajS {nx i0 k0 c:Int} {n m:Nat}:c ∈ allT nx i0 n k0 m↔∃ r:Nat,r < m∧∃ j:Nat,j < n∧c = (k0+(r:Int))*nx+(i0+(j:Int)):=by
 unfold allT agp
 simp only [List.mem_flatMap,List.mem_range,List.mem_map]
 constructor
 ·rintro ⟨r,hr,j,hj,rfl⟩
  exact ⟨r,hr,j,hj,rfl⟩
 ·rintro ⟨r,hr,j,hj,rfl⟩
  exact ⟨r,hr,j,hj,rfl⟩
theorem agq {nx a b c d k:Int}:k ∈ allT nx a (b+1 - a).toNat c (d+1 - c).toNat↔∃ r i:Int,(c≤r∧r≤d)∧(a≤i∧i≤b)∧k = r*nx+i:=by
 rw [ajS]
 constructor
 ·rintro ⟨r,hr,j,hj,rfl⟩
  exact ⟨c+r,a+j,by omega,by omega,rfl⟩
 ·rintro ⟨r,i,hr,hi,rfl⟩
  exact ⟨(r - c).toNat,by omega,(i - a).toNat,by omega,by rw [show c+((r - c).toNat:Int) = r from by omega,show a+((i - a).toNat:Int) = i from by omega]⟩
theorem KR {s:fT} {x:cZ} {k:Int}:k ∈ pg s x↔∃ r i:Int,((oU s.cell x.f1 s.ny).1≤r∧r≤(oU s.cell x.f1 s.ny).2)∧((oU s.cell x.f0 s.nx).1≤i∧i≤(oU s.cell x.f0 s.nx).2)∧k = r*s.nx+i:=agq
theorem IY (c x:Int):vF c x≤x / c∧x / c - 1≤vF c x:=by unfold vF;split <;> omega
theorem acK {c x y:Int} (hc:0 < c) (h:x≤y):vF c x≤vF c y:=by
 have h1:x / c≤y / c:=Int.ediv_le_ediv hc h
 by_cases hy:0 < y / c∧y % c = 0
 ·by_cases e:x = y
  ·rw [e];exact Int.le_refl _
  ·have h2:y = c*(y / c):=by have:=Int.emod_add_mul_ediv y c;omega
   have h3:x / c < y / c:=Int.ediv_lt_of_lt_mul hc (by rw [Int.mul_comm];omega)
   have:=(IY c x).1
   have:=(IY c y).2
   omega
 ·have h4:vF c y = y / c:=by unfold vF;rw [if_neg hy]
  have:=(IY c x).1
  omega
theorem aaC {c most:Int} {a b:gm} (hc:0 < c) (h0:b.f0≤a.f0) (h1:a.f1≤b.f1):(oU c b most).1≤(oU c a most).1∧(oU c a most).2≤(oU c b most).2:=by
 have:=acK hc h0
 have:=Int.ediv_le_ediv hc h1
 unfold oU
 dsimp only
 omega
theorem aaD {c most:Int} {a:gm} (hc:0 < c) (h:a.f0≤a.f1):(oU c a most).1≤(oU c a most).2:=by
 have:=(IY c a.f0).1
 have:=Int.ediv_le_ediv hc h
 unfold oU
 dsimp only
 omega
def Rl (s s':fT):Prop:=s'.nx = s.nx∧s'.ny = s.ny∧s'.cell = s.cell∧s'.slot = s.slot∧s'.slots = s.slots∧s'.layers = s.layers∧s'.most = s.most
theorem acL {s s':fT} {x x':cZ} (hs:Rl s s') (hc:0 < s.cell) (h:jF x x') {k:Int} (hk:k ∈ pg s x):k ∈ pg s' x':=by
 obtain ⟨h1,h2,h3,_⟩:=hs
 obtain ⟨r,i,hr,hi,e⟩:=KR.1 hk
 obtain ⟨a0,a1⟩:=aaC (c:=s.cell) (most:=s.nx) (a:=x.f0) (b:=x'.f0) hc h.1 h.2.1
 obtain ⟨b0,b1⟩:=aaC (c:=s.cell) (most:=s.ny) (a:=x.f1) (b:=x'.f1) hc h.2.2.1 h.2.2.2
 refine KR.2 ⟨r,i,?_,?_,?_⟩
 ·rw [h3,h2];omega
 ·rw [h3,h1];omega
 ·rw [h1];exact e
theorem acM {s:fT} {x:cZ} (hc:0 < s.cell) (h0:x.f0.f0≤x.f0.f1) (h1:x.f1.f0≤x.f1.f1):∃ k,k ∈ pg s x:=by
 have a:=aaD (c:=s.cell) (most:=s.nx) (a:=x.f0) hc h0
 have b:=aaD (c:=s.cell) (most:=s.ny) (a:=x.f1) hc h1
 exact ⟨_,KR.2 ⟨_,_,⟨Int.le_refl _,b⟩,⟨Int.le_refl _,a⟩,rfl⟩⟩
theorem KS {s:fT} {x:cZ} {layer j0:Int} {q:Nat} {y:cZ}:y ∈ fI s x layer j0 q↔∃ r:Nat,r < q∧∃ c ∈ pg s x,y = uT s layer (j0+(r:Int)) c:=by
 unfold fI slotL
 simp only [List.mem_flatMap,List.mem_range,List.mem_map]
 constructor
 ·rintro ⟨r,hr,c,hc,rfl⟩
  exact ⟨r,hr,c,hc,rfl⟩
 ·rintro ⟨r,hr,c,hc,rfl⟩
  exact ⟨r,hr,c,hc,rfl⟩
theorem agr {t u d:Int} (hd:0 < d) (h:t < u):0 < ((u - 1) / d+1 - t / d).toNat:=by
 have:=Int.ediv_le_ediv (a:=t) (b:=u - 1) hd (by omega)
 omega
theorem ams {s s':fT} {x x':cZ} {layer t u:Int} (hs:Rl s s') (hN:Fg s) (hcu:∀ i:Int,jF ⟨(bQ s.currents i).f0,(bQ s.currents i).f1⟩ ⟨(bQ s'.currents i).f0,(bQ s'.currents i).f1⟩)
 (h:jF x x') (h0:x.f0.f0≤x.f0.f1) (h1:x.f1.f0≤x.f1.f1) (ht:t < u):jF (R8 s x layer t u) (R8 s' x' layer t u):=by
 have hc:0 < s.cell:=by have:=hN.cell;omega
 have hd:0 < s.slot:=by have:=hN.slot;omega
 unfold R8
 rw [hs.2.2.2.1]
 refine agn ?_ fun y hy=>?_
 ·obtain ⟨k,hk⟩:=acM (s:=s) hc h0 h1
  exact List.ne_nil_of_mem (KS.2 ⟨0,agr hd ht,k,hk,rfl⟩)
 ·obtain ⟨r,hr,c,hc',rfl⟩:=KS.1 hy
  refine ⟨_,KS.2 ⟨r,hr,c,acL hs hc h hc',rfl⟩,?_⟩
  unfold uT
  rw [hs.1,hs.2.1,hs.2.2.2.2.2.1]
  exact hcu _
theorem Rm {dive speed:Int} {a b u v:gm} (hd:0≤dive) (h:b.f0≤a.f0∧a.f1≤b.f1) (k:v.f0≤u.f0∧u.f1≤v.f1):(jG dive b speed v).f0≤(jG dive a speed u).f0∧(jG dive a speed u).f1≤(jG dive b speed v).f1:=by
 have h0:(speed+1000*v.f0)*dive≤(speed+1000*u.f0)*dive:=Int.mul_le_mul_of_nonneg_right (by omega) hd
 have h1:(speed+1000*u.f1)*dive≤(speed+1000*v.f1)*dive:=Int.mul_le_mul_of_nonneg_right (by omega) hd
 unfold jG PW upM
 dsimp only
 generalize (speed+1000*v.f0)*dive = A at*
 generalize (speed+1000*u.f0)*dive = B at*
 generalize (speed+1000*v.f1)*dive = C at*
 generalize (speed+1000*u.f1)*dive = D at*
 omega
theorem acN {s s':fT} {v:iw} {x x':cZ} (hs:Rl s s') (h:jF x x'):jF (dE s v x) (dE s' v x'):=by
 unfold dE
 rw [hs.2.2.2.2.2.2]
 unfold jF at*
 dsimp only
 omega
theorem ajT {s:fT} {v:iw} {x:cZ} (hS:Fg s) (hV:uF v) (hx:gp x):(dE s v x).f0.f0≤(dE s v x).f0.f1∧(dE s v x).f1.f0≤(dE s v x).f1.f1:=by
 have:=(jy (a:=v.speed+s.most) (b:=v.dive) (m:=10000) (n:=131072) (by have:=hV.speed;have:=hS.most;omega) (by have:=hV.speed;have:=hS.most;omega) (by have:=hV.dive;omega) hV.dive.2).1
 unfold dE
 obtain ⟨_,h0,h1⟩:=hx
 dsimp only
 omega
theorem ags {s s':fT} {v:iw} {x x':cZ} {t hd layer:Int} (hs:Rl s s') (hN:Fg s) (hV:uF v) (hx:gp x) (hcu:∀ i:Int,jF ⟨(bQ s.currents i).f0,(bQ s.currents i).f1⟩ ⟨(bQ s'.currents i).f0,(bQ s'.currents i).f1⟩)
 (h:jF x x'):jF (jl s v x (dE s v x) t hd layer) (jl s' v x' (dE s' v x') t hd layer):=by
 obtain ⟨g0,g1⟩:=ajT (s:=s) hN hV hx
 have ha:=ams (layer:=layer) (t:=t) (u:=t+v.dive) hs hN hcu (acN (v:=v) hs h) g0 g1 (by have:=hV.dive;omega)
 have hq:0≤v.dive:=by have:=hV.dive;omega
 unfold jl
 obtain ⟨p0,p1⟩:=Rm (speed:=(Cf hd).1*v.speed) hq ⟨h.1,h.2.1⟩ ⟨ha.1,ha.2.1⟩
 obtain ⟨q0,q1⟩:=Rm (speed:=(Cf hd).2*v.speed) hq ⟨h.2.2.1,h.2.2.2⟩ ⟨ha.2.2.1,ha.2.2.2⟩
 exact ⟨p0,p1,q0,q1⟩
end Go.Proofs.Ytmhaiihjfgfaoaa.Gl
end
section
namespace Go.Proofs.Ytmhaiihjfgfaoaa.Gl
open Go.RowKit Go.Proofs.YtmhaiihjfgfaoaaW.PrintWords Go.Proofs.YtmhaiihjfgfaoaaW.PrintLast Go.Proofs.Ytmhaiihjfgfaoaa.Pr
def Sm (b:cZ):Prop:=(-4000000≤b.f0.f0∧b.f0.f0≤b.f0.f1∧b.f0.f1≤4000000)∧-4000000≤b.f1.f0∧b.f1.f0≤b.f1.f1∧b.f1.f1≤4000000
theorem FE {s:fT} {v:iw} {x:cZ} {t hd layer:Int} (hS:BQ s) (hV:uF v) (hx:gp x) (hr:eP s v x t = 0):Sm (jl s v x (dE s v x) t hd layer):=by
 obtain ⟨_,_,⟨a0,a1⟩,b0,b1⟩:=yx hS.n hV hx hr
 obtain ⟨_,o1,o2⟩:=hx
 have hdv:=hV.dive
 have hsp:=hV.speed
 have hdi:=LP hd
 have hai:=adp hS.cb (dE s v x) layer t (t+v.dive)
 unfold jl jG Sm PW upM
 dsimp only
 generalize R8 s (dE s v x) layer t (t+v.dive) = y at*
 generalize Cf hd = d at*
 obtain ⟨⟨y0,y1⟩,⟨y2,y3⟩,⟨y4,y5⟩,⟨y6,y7⟩,y8,y9⟩:=hai
 have m0:=iP (a:=d.1) (b:=v.speed) (m:=1000) (n:=5000) hdi.1.1 hdi.1.2 hsp.1 hsp.2 (by omega)
 have m1:=iP (a:=d.2) (b:=v.speed) (m:=1000) (n:=5000) hdi.2.1 hdi.2.2 hsp.1 hsp.2 (by omega)
 generalize d.1*v.speed = e at*
 generalize d.2*v.speed = f at*
 have n0:=iP (a:=e+1000*y.f0.f0) (b:=v.dive) (m:=10000000) (n:=131072) (by omega) (by omega) (by omega) (by omega) (by omega)
 have n1:=iP (a:=e+1000*y.f0.f1) (b:=v.dive) (m:=10000000) (n:=131072) (by omega) (by omega) (by omega) (by omega) (by omega)
 have n2:=iP (a:=f+1000*y.f1.f0) (b:=v.dive) (m:=10000000) (n:=131072) (by omega) (by omega) (by omega) (by omega) (by omega)
 have n3:=iP (a:=f+1000*y.f1.f1) (b:=v.dive) (m:=10000000) (n:=131072) (by omega) (by omega) (by omega) (by omega) (by omega)
 have k0:=Int.mul_le_mul_of_nonneg_right (show e+1000*y.f0.f0≤e+1000*y.f0.f1 by omega) (show 0≤v.dive by omega)
 have k1:=Int.mul_le_mul_of_nonneg_right (show f+1000*y.f1.f0≤f+1000*y.f1.f1 by omega) (show 0≤v.dive by omega)
 generalize (e+1000*y.f0.f0)*v.dive = A at*
 generalize (e+1000*y.f0.f1)*v.dive = B at*
 generalize (f+1000*y.f1.f0)*v.dive = C at*
 generalize (f+1000*y.f1.f1)*v.dive = E at*
 clear m0 m1 hdi hdv hsp hr
 omega
theorem Sm.ok {b:cZ} (h:Sm b):gp b:=by unfold Sm at h;unfold gp Cc;omega
theorem Sm.aE7 {a b:cZ} (h:Sm a) (k:Sm b):Sm (mW a b):=by
 unfold Sm at*
 unfold mW
 dsimp only
 omega
theorem Di {a b:Int} (h:a≤b) (h0:-4000000≤a) (h1:b≤4000000):EU a b = true:=by rw [wy];omega
theorem Sm.uK {b:cZ} (h:Sm b):uK b = true:=by
 unfold Sm at h
 unfold Gl.uK
 rw [Di h.1.2.1 h.1.1 h.1.2.2,Di h.2.2.1 h.2.1 h.2.2.2]
 simp only [Bool.true_and,Bool.and_eq_true,dR]
 omega
theorem ajU {a b:gm} (h0:EU a.f0 a.f1 = true) (h1:EU b.f0 b.f1 = true) (ha:a.f0≤a.f1) (h:b.f0≤a.f0∧a.f1≤b.f1):Su a b = 2:=by
 unfold Su
 rw [h0,h1,if_pos (show (true && true) = true from rfl),if_pos (by omega),if_pos h]
theorem ajV {a b:cZ} (ha:Sm a) (hb:Sm b) (h:jF a b):pE a b = 2:=by
 unfold Sm at ha hb
 unfold jF at h
 unfold pE
 rw [ajU (Di ha.1.2.1 ha.1.1 ha.1.2.2) (Di hb.1.2.1 hb.1.1 hb.1.2.2) ha.1.2.1 ⟨h.1,h.2.1⟩,ajU (Di ha.2.2.1 ha.2.1 ha.2.2.2) (Di hb.2.2.1 hb.2.1 hb.2.2.2) ha.2.2.1 ⟨h.2.2.1,h.2.2.2⟩]
 rfl
theorem amt {s:fT} {c:eQ} (hl:1≤s.layers) (h0:0≤c.f0) (h1:c.f0≤8) (h2:0≤c.f1) (h3:c.f1 < s.layers):c ∈ oP s:=by
 unfold oP Qd abD
 rw [List.mem_flatMap]
 refine ⟨c.f0.toNat,List.mem_range.2 (by omega),?_⟩
 rw [List.mem_map]
 refine ⟨c.f1.toNat,List.mem_range.2 (by omega),?_⟩
 obtain ⟨a,b⟩:=c
 dsimp only at*
 rw [Int.toNat_of_nonneg h0,Int.toNat_of_nonneg h2]
theorem aaE {s:fT} {v:iw} {x g:cZ} {t:Int}:∀ (l:List eQ) (A:cZ),jF A (oD s v x g t A l)∧∀ c ∈ l,jF (jl s v x g t c.f0 c.f1) (oD s v x g t A l)
 |[],A=>⟨jF.rfl' A,fun c h=>by cases h⟩
 |d :: l,A=>by
  have ih:=aaE (s:=s) (v:=v) (x:=x) (g:=g) (t:=t) l (mW A (jl s v x g t d.f0 d.f1))
  have e:oD s v x g t A (d :: l) = oD s v x g t (mW A (jl s v x g t d.f0 d.f1)) l:=rfl
  rw [e]
  refine ⟨IX.1.trans ih.1,fun c hc=>?_⟩
  rcases List.mem_cons.1 hc with rfl|hc
  ·exact IX.2.trans ih.1
  ·exact ih.2 c hc
theorem Lh {s:fT} {v:iw} {x:cZ} {t:Int} (hS:BQ s) (hV:uF v) (hx:gp x) (hr:eP s v x t = 0):∀ (l:List eQ) (A:cZ),Sm A→Sm (oD s v x (dE s v x) t A l)
 |[],A,h=>h
 |c :: l,A,h=>Lh hS hV hx hr l _ (h.aE7 (FE hS hV hx hr))
theorem aaF {s:fT} {v:iw} {x:cZ} {t:Int} (hS:BQ s) (hV:uF v) (hx:gp x) (hr:eP s v x t = 0):Sm (Cy s v x t):=Lh hS hV hx hr _ _ (FE hS hV hx hr)
def aaG (s:fT) (v:iw):cZ→Int→List cZ→Prop
 |_,_,[]=>True
 |y,t,b :: l=>eP s v y t = 0∧gp b∧(∀ c ∈ oP s,jF (jl s v y (dE s v y) t c.f0 c.f1) b)∧aaG s v b (t+v.dive) l
theorem Rn {s:fT} {v:iw} (hS:BQ s) (hV:uF v):∀ (n:Nat) (y:cZ) (t:Int) (out:List cZ),gp y→(iZ s v n y t out).2 = 0→∃ Bs,(iZ s v n y t out).1 = out++Bs∧Bs.length = n∧aaG s v y t Bs∧∀ b ∈ Bs,Sm b
 |0,y,t,out,hy,h=>⟨[],by unfold iZ;simp,rfl,trivial,fun b hb=>by cases hb⟩
 |n+1,y,t,out,hy,h=>by
  unfold iZ at h ⊢
  by_cases hr:eP s v y t = 0
  case neg =>
   rw [if_pos hr] at h
   exact absurd h hr
  rw [if_neg (fun q=>q hr)] at h ⊢
  have hsm:=aaF hS hV hy hr
  obtain ⟨Bs,e,hl,hc,hb⟩:=Rn hS hV n _ _ _ hsm.ok h
  refine ⟨Cy s v y t :: Bs,by rw [e,List.append_assoc];rfl,by rw [List.length_cons,hl],⟨hr,hsm.ok,(aaE _ _).2,hc⟩,fun b hb2=>?_⟩
  rcases List.mem_cons.1 hb2 with rfl|hb2
  ·exact hsm
  ·exact hb b hb2
theorem aaH {s:fT} {v:iw} {x g:cZ} {t:Int} {tb:cZ} (hi:∀ c ∈ oP s,pE (jl s v x g t c.f0 c.f1) tb = 2):∀ (l:List eQ) (a:Int),(∀ c ∈ l,c ∈ oP s)→Gx s v x g t tb a l = a
 |[],a,_=>rfl
 |c :: l,a,h=>by
  have e:Gx s v x g t tb a (c :: l) = Gx s v x g t tb (if pE (jl s v x g t c.f0 c.f1) tb = 2 then a else 16) l:=rfl
  rw [e,if_pos (hi c (h c List.mem_cons_self)),aaH hi l a (fun d hd=>h d (List.mem_cons_of_mem _ hd))]
theorem aaI {s:fT} {v:iw} (hS:BQ s) (hV:uF v):∀ (l:List cZ) (y:cZ) (t:Int),gp y→aaG s v y t l→(∀ b ∈ l,Sm b)→ckI s v l y t 0 = 0
 |[],y,t,_,_,_=>rfl
 |b :: l,y,t,hy,⟨hr,hb,hc,hch⟩,hs=>by
  unfold ckI
  rw [if_neg (fun q=>q hr)]
  unfold Qn
  rw [aaH (fun c hcm=>ajV (FE hS hV hy hr) (hs b List.mem_cons_self) (hc c hcm)) _ _ (fun c h=>h)]
  exact aaI hS hV l b _ hb hch (fun d hd=>hs d (List.mem_cons_of_mem _ hd))
theorem aey (s:fT) (v:iw):∀ (l:List eQ) (x:cZ) (t n:Int) (out:List cZ),(nW s v l x t n out).2.2 = 0→(nW s v l x t n out).2.1 = n+(l.length:Int)∧(nW s v l x t n out).1.length = out.length+l.length∧out <+:(nW s v l x t n out).1
 |[],x,t,n,out,h=>by unfold nW;exact ⟨by simp,by simp,List.prefix_refl _⟩
 |c :: l,x,t,n,out,h=>by
  unfold nW at h ⊢
  split at h
  ·rename_i hn
   exact absurd h hn
  ·rename_i hn
   rw [if_neg hn]
   obtain ⟨h1,h2,h3⟩:=aey s v l _ _ _ _ h
   exact ⟨by rw [h1,List.length_cons];omega,by rw [h2];simp only [List.length_append,List.length_cons,List.length_nil];omega,(List.prefix_append _ _).trans h3⟩
theorem Rl.rfl' (s:fT):Rl s s:=⟨rfl,rfl,rfl,rfl,rfl,rfl,rfl⟩
theorem SY {s:fT} {v:iw} (hS:BQ s) (hV:uF v):∀ (l:List eQ) (Bs:List cZ) (x y:cZ) (t n:Int) (out:List cZ),l.all (Ck s.layers) = true→gp x→jF x y→aaG s v y t Bs→(nW s v l x t n out).2.2 = 0→
 ∀ (i:Nat) (r b:cZ),(nW s v l x t n out).1[out.length+i]? = some r→Bs[i]? = some b→jF r b
 |[],Bs,x,y,t,n,out,_,_,_,_,_,i,r,b,hr,_=>by
  unfold nW at hr
  have:=(List.getElem?_eq_some_iff.1 hr).1
  dsimp only at this
  omega
 |c :: l,[],x,y,t,n,out,_,_,_,_,_,i,r,b,_,hb=>by cases hb
 |c :: l,z :: Bs,x,y,t,n,out,hall,hx,hsub,⟨hry,hz,hzc,hch⟩,hrun,i,r,b,hr,hb=>by
  unfold nW at hrun hr
  by_cases hD:jv s v x t = 0
  case neg =>
   rw [if_pos hD] at hrun
   exact absurd hrun hD
  rw [if_neg (fun q=>q hD)] at hrun hr
  rw [List.all_cons,Bool.and_eq_true] at hall
  obtain ⟨⟨hh0,hh1⟩,hl0,hl1⟩:=adA hS.n.layers.1 hall.1
  have hmem:=amt (s:=s) (c:=c) hS.n.layers.1 hh0 hh1 hl0 hl1
  have hdv:iX s v x t c.f0 c.f1 = jl s v x (dE s v x) t c.f0 c.f1:=by unfold iX;rw [if_pos hD]
  have hst:jF (iX s v x t c.f0 c.f1) z:=by
   rw [hdv]
   exact (ags (Rl.rfl' s) hS.n hV hx (fun j=>jF.rfl' _) hsub).trans (hzc c hmem)
  have hbx:=PV (hd:=c.f0) (layer:=c.f1) hS hV hx hD
  cases i with
  |zero =>
   obtain ⟨_,_,w,hw⟩:=aey s v l _ _ _ _ hrun
   rw [← hw,Nat.add_zero,List.append_assoc,List.getElem?_append_right (Nat.le_refl _),Nat.sub_self] at hr
   rw [List.getElem?_cons_zero] at hb
   cases hb
   rw [List.singleton_append,List.getElem?_cons_zero] at hr
   cases hr
   exact hst
  |succ i =>
   rw [List.getElem?_cons_succ] at hb
   refine SY hS hV l Bs _ z _ _ _ hall.2 hbx hst hch hrun i r b ?_ hb
   rw [List.length_append,List.length_singleton,Nat.add_assoc,Nat.add_comm 1 i]
   exact hr
end Go.Proofs.Ytmhaiihjfgfaoaa.Gl
end
section
namespace Go.Proofs.Ytmhaiihjfgfaoaa.Pr
open Go.RowKit Go.Proofs.YtmhaiihjfgfaoaaW.PrintWords Go.Proofs.YtmhaiihjfgfaoaaW.PrintLast Go.Proofs.YtmhaiihjfgfaoaaW.PrintMore
attribute [local go_sem] dw dx dM dN dz
set_option linter.unusedVariables false
set_option linter.unusedSimpArgs false
end Go.Proofs.Ytmhaiihjfgfaoaa.Pr
end
section
namespace Go.Proofs.Ytmhaiihjfgfaoaa.Gl
open Go.RowKit Go.Proofs.YtmhaiihjfgfaoaaW.PrintWords Go.Proofs.YtmhaiihjfgfaoaaW.PrintLast Go.Proofs.Ytmhaiihjfgfaoaa.Pr
theorem ajW {s:fT} {c:eQ} (h:c ∈ oP s):(0≤c.f0∧c.f0≤8)∧0≤c.f1∧c.f1 < s.layers:=by
 unfold oP Qd abD at h
 obtain ⟨r,hr,h⟩:=List.mem_flatMap.1 h
 obtain ⟨j,hj,rfl⟩:=List.mem_map.1 h
 have h1:=List.mem_range.1 hr
 have h2:=List.mem_range.1 hj
 dsimp only
 omega
theorem amu {s:fT} {l:List eQ} (hl:l.length≤64) (h:∀ c ∈ l,c ∈ oP s):vG l s.layers = 0:=by
 unfold vG
 have ha:l.all (Ck s.layers) = true:=List.all_eq_true.2 (fun c hc=>by
  have:=ajW (h c hc)
  unfold Ck
  rw [dR.2 ⟨this.1.1,this.1.2⟩,decide_eq_true this.2.1,decide_eq_true this.2.2,Bool.or_true]
  rfl)
 rw [if_neg (by omega),ha]
 rfl
theorem acO {s:fT} {v:iw} {x:cZ} {t:Int} {e:gm} {l:List eQ} {p:xz} (h:yP s v x t e l p = 0):eB s v x t = 0∧ou e.f0 e.f1 0 1073741824 = true∧vG l s.layers = 0∧sJ p = true:=by
 unfold yP at h
 by_cases h1:eB s v x t = 0
 case neg=>rw [if_pos h1] at h;exact absurd h h1
 rw [if_neg (fun q=>q h1)] at h
 cases h2:ou e.f0 e.f1 0 1073741824 with
 |false=>rw [if_pos h2] at h;cases h
 |true =>
  rw [if_neg (by rw [h2];decide)] at h
  by_cases h3:vG l s.layers = 0
  case neg=>rw [if_pos h3] at h;exact absurd h h3
  rw [if_neg (fun q=>q h3)] at h
  cases h4:sJ p with
  |false=>rw [if_pos h4] at h;cases h
  |true=>exact ⟨h1,rfl,h3,rfl⟩
theorem ajX {s:fT} {v:iw} {x:cZ} {t:Int} {e:gm} {p:xz} {d:Int} (h:BO s v x t e p d = 0):eB s v x t = 0∧ou e.f0 e.f1 0 1073741824 = true∧sJ p = true∧1≤d∧d≤3∧0≤(pM s v p x t e d.toNat).2:=by
 unfold BO at h
 by_cases h1:eB s v x t = 0
 case neg=>rw [if_pos h1] at h;exact absurd h h1
 rw [if_neg (fun q=>q h1)] at h
 cases h2:ou e.f0 e.f1 0 1073741824 with
 |false=>rw [if_pos h2] at h;cases h
 |true =>
  rw [if_neg (by rw [h2];decide)] at h
  cases h4:sJ p with
  |false=>rw [if_pos h4] at h;cases h
  |true =>
   rw [if_neg (by rw [h4];decide)] at h
   by_cases h5:d < 1
   ·rw [if_pos h5] at h;cases h
   rw [if_neg h5] at h
   by_cases h6:3 < d
   ·rw [if_pos h6] at h;cases h
   rw [if_neg h6] at h
   by_cases h7:(pM s v p x t e d.toNat).2 < 0
   ·rw [if_pos h7] at h;cases h
   exact ⟨h1,rfl,rfl,by omega,by omega,by omega⟩
theorem agt {s:fT} {v:iw} {x:cZ} {t:Int} (h:eB s v x t = 0):uq v = true∧Fg s:=by
 have hb:(if il s v≠0 then il s v else ow x t) = 0:=h
 obtain ⟨h1,_⟩:=mg hb
 exact ⟨KN h1,(ve h1).1.n⟩
theorem agu {s:fT} {v:iw} {x:cZ} {t:Int} {e:gm} {p:xz} {d:Int} (h:BO s v x t e p d = 0):
 ∃ l,Lc s v x t e p d = (l,xA v l)∧1≤l.length∧(l.length:Int)≤d∧l.length≤3∧(∀ c ∈ l,c ∈ oP s)∧yP s v x t e l p = 0:=by
 obtain ⟨h1,h2,h3,h4,h5,h6⟩:=ajX h
 obtain ⟨hv,hS⟩:=agt h1
 obtain ⟨i1,_⟩:=SH (s:=s) (p:=p) hv x t e d.toNat
 rcases i1 with i1|⟨l,k1,k2,k3,k4,k5⟩
 ·rw [i1] at h6
  exact absurd h6 (by decide)
 ·refine ⟨l,by unfold Lc;rw [h,if_pos rfl,k5],k1,by omega,by omega,k3,(age h1 h2 (amu (by omega) k3) h3).2 k4⟩
end Go.Proofs.Ytmhaiihjfgfaoaa.Gl
end
section
namespace Go.Proofs.Ytmhaiihjfgfaoaa.Gl
open Go.RowKit Go.Proofs.YtmhaiihjfgfaoaaW.PrintWords Go.Proofs.YtmhaiihjfgfaoaaW.PrintLast Go.Proofs.YtmhaiihjfgfaoaaW.PrintMore Go.Proofs.Ytmhaiihjfgfaoaa.Pr
set_option linter.unusedVariables false
theorem KT {x:Int} (h:-9223372036854775808≤x∧x < 9223372036854775808):wrap64 x = x:=by unfold wrap64;omega
theorem S9 (lo hi:Int):bu.f lo hi = some (EU lo hi):=by
 unfold bu.f ay.f
 rw [show EU lo hi = (decide (lo≤hi) && (decide (-1073741824≤lo) && decide (lo≤1073741824)) && (decide (-1073741824≤hi) && decide (hi≤1073741824))) from by
  rw [Bool.eq_iff_iff,wy];simp only [Bool.and_eq_true,decide_eq_true_eq];omega]
 by_cases h1:lo≤hi <;> by_cases h2:-1073741824≤lo <;> by_cases h3:lo≤1073741824 <;> by_cases h4:-1073741824≤hi <;> by_cases h5:hi≤1073741824 <;> simp [h1,h2,h3,h4,h5]
theorem Dj (lo hi a b:Int):aX.f lo hi a b = some (ou lo hi a b):=by
 unfold aX.f ou
 rw [S9,Option.bind_some]
 cases EU lo hi with
 |false=>rfl
 |true =>
  by_cases h:a≤lo <;> simp [h]
theorem acP (x lo hi:Int):ay.f x lo hi = some (iR x lo hi):=by
 unfold ay.f iR
 by_cases h:lo≤x <;> simp [h]
theorem amv (x:cZ):bZ.f x.f0.f0 x.f0.f1 x.f1.f0 x.f1.f1 = some (uK x):=by
 unfold bZ.f uK
 simp only [S9,acP,Option.bind_some]
 cases EU x.f0.f0 x.f0.f1 <;> cases EU x.f1.f0 x.f1.f1 <;> cases iR x.f0.f0 (-268435456) 268435456 <;> cases iR x.f0.f1 (-268435456) 268435456 <;> cases iR x.f1.f0 (-268435456) 268435456 <;> cases iR x.f1.f1 (-268435456) 268435456 <;> rfl
theorem amw (v:iw):bL.f v.speed v.dive v.use.f0 v.use.f1 v.drift.f0 v.drift.f1 v.reserve = some (Fz v):=by
 unfold bL.f Fz uq iR
 simp only [Dj,Option.bind_some]
 by_cases h1:v.speed < 0
 ·rw [if_pos h1,show decide (0≤v.speed) = false from decide_eq_false (by omega)];rfl
 rw [if_neg h1,show decide (0≤v.speed) = true from decide_eq_true (by omega)]
 by_cases h2:v.speed > 5000
 ·rw [if_pos h2,show decide (v.speed≤5000) = false from decide_eq_false (by omega)];rfl
 rw [if_neg h2,show decide (v.speed≤5000) = true from decide_eq_true (by omega)]
 by_cases h3:v.dive < 1
 ·rw [if_pos h3,show decide (1≤v.dive) = false from decide_eq_false (by omega)];rfl
 rw [if_neg h3,show decide (1≤v.dive) = true from decide_eq_true (by omega)]
 by_cases h4:v.dive > 131072
 ·rw [if_pos h4,show decide (v.dive≤131072) = false from decide_eq_false (by omega)];rfl
 rw [if_neg h4,show decide (v.dive≤131072) = true from decide_eq_true (by omega)]
 cases ou v.use.f0 v.use.f1 0 1073741824
 ·rfl
 cases ou v.drift.f0 v.drift.f1 0 1073741824
 ·rfl
 by_cases h5:v.reserve < 0
 ·rw [if_pos h5,show decide (0≤v.reserve) = false from decide_eq_false (by omega)];rfl
 rw [if_neg h5,show decide (0≤v.reserve) = true from decide_eq_true (by omega)]
 by_cases h6:v.reserve > 1073741824
 ·rw [if_pos h6,show decide (v.reserve≤1073741824) = false from decide_eq_false (by omega)];rfl
 rw [if_neg h6,show decide (v.reserve≤1073741824) = true from decide_eq_true (by omega)];rfl
theorem aaJ (s:fT) (hm:0≤s.most∧s.most≤5000) (hl:s.currents.length≤100000):∀ (m i K:Nat),i+m = s.currents.length→m+1≤K→
 aj.l0 K (i:Int) s.nx s.ny s.cell s.slot s.slots s.layers s.most s.shores s.currents = some (if (s.currents.drop i).any (RH s.most) then 2 else 0)
 |0,i,K+1,h,hk=>by
  rw [aj.l0,if_neg (by omega),List.drop_eq_nil_of_le (by omega)];rfl
 |m+1,i,K+1,h,hk=>by
  have hi:i < s.currents.length:=by omega
  rw [aj.l0,if_pos (by omega),if_pos (by omega),KT (x:=-s.most) (by omega),KT (x:=(i:Int)+1) (by omega)]
  have e:bQ s.currents (i:Int) = s.currents[i]:=by
   unfold bQ
   simp [hi]
  rw [e,Dj,Option.bind_some,Dj,Option.bind_some,List.drop_eq_getElem_cons hi,List.any_cons]
  have ih:=aaJ s hm hl m (i+1) K (by omega) (by omega)
  rw [show ((i+1:Nat):Int) = (i:Int)+1 from by omega] at ih
  rw [ih,show RH s.most s.currents[i] = (!ou s.currents[i].f0.f0 s.currents[i].f0.f1 (-s.most) s.most || !ou s.currents[i].f1.f0 s.currents[i].f1.f1 (-s.most) s.most) from rfl]
  cases ou s.currents[i].f0.f0 s.currents[i].f0.f1 (-s.most) s.most
  ·rfl
  cases ou s.currents[i].f1.f0 s.currents[i].f1.f1 (-s.most) s.most
  ·rfl
  rfl
theorem amx (s:fT) (K:Nat) (hl:s.currents.length≤100000) (hk:s.currents.length+3≤K):aj.f K s.nx s.ny s.cell s.slot s.slots s.layers s.most s.shores s.currents = some (rE s):=by
 obtain ⟨K,rfl⟩:∃ k,K = k+2:=⟨K - 2,by omega⟩
 have hj:aj.j0 (K+2) true s.nx s.ny s.cell s.slot s.slots s.layers s.most s.shores s.currents = some 2:=by rw [aj.j0,if_pos rfl]
 unfold aj.f rE RG
 rw [hj]
 unfold iR
 by_cases h1:s.nx < 1
 ·rw [if_pos h1,show decide (1≤s.nx) = false from decide_eq_false (by omega)];rfl
 rw [if_neg h1,show decide (1≤s.nx) = true from decide_eq_true (by omega)]
 by_cases h2:s.nx > 12
 ·rw [if_pos h2,show decide (s.nx≤12) = false from decide_eq_false (by omega)];rfl
 rw [if_neg h2,show decide (s.nx≤12) = true from decide_eq_true (by omega)]
 by_cases h3:s.ny < 1
 ·rw [if_pos h3,show decide (1≤s.ny) = false from decide_eq_false (by omega)];rfl
 rw [if_neg h3,show decide (1≤s.ny) = true from decide_eq_true (by omega)]
 by_cases h4:s.ny > 12
 ·rw [if_pos h4,show decide (s.ny≤12) = false from decide_eq_false (by omega)];rfl
 rw [if_neg h4,show decide (s.ny≤12) = true from decide_eq_true (by omega)]
 by_cases h5:s.cell < 100
 ·rw [if_pos h5,show decide (100≤s.cell) = false from decide_eq_false (by omega)];rfl
 rw [if_neg h5,show decide (100≤s.cell) = true from decide_eq_true (by omega)]
 by_cases h6:s.cell > 65536
 ·rw [if_pos h6,show decide (s.cell≤65536) = false from decide_eq_false (by omega)];rfl
 rw [if_neg h6,show decide (s.cell≤65536) = true from decide_eq_true (by omega)]
 by_cases h7:s.slot < 1
 ·rw [if_pos h7,show decide (1≤s.slot) = false from decide_eq_false (by omega)];rfl
 rw [if_neg h7,show decide (1≤s.slot) = true from decide_eq_true (by omega)]
 by_cases h8:s.slot > 1048576
 ·rw [if_pos h8,show decide (s.slot≤1048576) = false from decide_eq_false (by omega)];rfl
 rw [if_neg h8,show decide (s.slot≤1048576) = true from decide_eq_true (by omega)]
 by_cases h9:s.slots < 1
 ·rw [if_pos h9,show decide (1≤s.slots) = false from decide_eq_false (by omega)];rfl
 rw [if_neg h9,show decide (1≤s.slots) = true from decide_eq_true (by omega)]
 by_cases h10:s.slots > 16
 ·rw [if_pos h10,show decide (s.slots≤16) = false from decide_eq_false (by omega)];rfl
 rw [if_neg h10,show decide (s.slots≤16) = true from decide_eq_true (by omega)]
 by_cases h11:s.layers < 1
 ·rw [if_pos h11,show decide (1≤s.layers) = false from decide_eq_false (by omega)];rfl
 rw [if_neg h11,show decide (1≤s.layers) = true from decide_eq_true (by omega)]
 by_cases h12:s.layers > 3
 ·rw [if_pos h12,show decide (s.layers≤3) = false from decide_eq_false (by omega)];rfl
 rw [if_neg h12,show decide (s.layers≤3) = true from decide_eq_true (by omega)]
 by_cases h13:s.most < 0
 ·rw [if_pos h13,show decide (0≤s.most) = false from decide_eq_false (by omega)];rfl
 rw [if_neg h13,show decide (0≤s.most) = true from decide_eq_true (by omega)]
 by_cases h14:s.most > 5000
 ·rw [show decide (s.most > 5000) = true from decide_eq_true h14,hj,show decide (s.most≤5000) = false from decide_eq_false (by omega)];rfl
 rw [show decide (s.most > 5000) = false from decide_eq_false h14,show decide (s.most≤5000) = true from decide_eq_true (by omega)]
 obtain ⟨n0,n1⟩:=jy (a:=s.nx) (b:=s.ny) (m:=12) (n:=12) (by omega) (by omega) (by omega) (by omega)
 obtain ⟨m0,m1⟩:=jy (a:=s.slots) (b:=s.layers) (m:=16) (n:=3) (by omega) (by omega) (by omega) (by omega)
 obtain ⟨q0,q1⟩:=jy (a:=s.slots*s.layers) (b:=s.nx*s.ny) (m:=48) (n:=144) (by omega) (by omega) (by omega) (by omega)
 obtain ⟨p0,p1⟩:=jy (a:=s.slots*s.layers) (b:=s.nx) (m:=48) (n:=12) (by omega) (by omega) (by omega) (by omega)
 have ea:s.layers*s.slots = s.slots*s.layers:=Int.mul_comm _ _
 have eb:s.slots*s.layers*s.nx*s.ny = s.slots*s.layers*(s.nx*s.ny):=by rw [Int.mul_assoc]
 rw [aj.j0,if_neg (by decide),KT (x:=s.nx*s.ny) (by omega)]
 by_cases h15:(s.shores.length:Int) = s.nx*s.ny
 ·rw [if_pos h15,decide_eq_true h15,aj.j1,KT (x:=s.slots*s.layers) (by omega),KT (x:=s.slots*s.layers*s.nx) (by omega),eb,KT (x:=s.slots*s.layers*(s.nx*s.ny)) (by omega)]
  by_cases h16:(s.currents.length:Int) = s.slots*s.layers*(s.nx*s.ny)
  ·rw [if_neg (by rw [h16];simp),decide_eq_true h16]
   have:=aaJ s (by omega) hl s.currents.length 0 K (by omega) (by omega)
   rw [show ((0:Nat):Int) = 0 from rfl,List.drop_zero] at this
   rw [this]
   cases s.currents.any (RH s.most) <;> rfl
  ·rw [if_pos (by simpa using h16),decide_eq_false h16];rfl
 ·rw [if_neg h15,decide_eq_false h15,aj.j1,if_pos rfl];rfl
theorem agv (s:fT):dK.f s.nx s.ny s.cell s.slot s.slots s.layers s.most s.shores s.currents = some (decide ((s.shores.length:Int) > 200) || decide ((s.currents.length:Int) > 3000)):=by
 unfold dK.f
 by_cases h:(s.shores.length:Int) > 200 <;> simp [h]
def amy (s:fT) (v:iw) (x:cZ) (t:Int):Bool:=!decide ((s.shores.length:Int) > 200) && !decide ((s.currents.length:Int) > 3000) && RG s && uq v && uK x && decide (0≤t) && decide (t≤1073741824)
theorem amz (s:fT) (v:iw) (x:cZ) (t:Int) (K:Nat) (hk:3003≤K):ek.f K s.nx s.ny s.cell s.slot s.slots s.layers s.most s.shores s.currents v.speed v.dive v.use.f0 v.use.f1 v.drift.f0 v.drift.f1 v.reserve x.f0.f0 x.f0.f1 x.f1.f0 x.f1.f1 t = some (amy s v x t):=by
 unfold ek.f amy
 rw [agv,Option.bind_some]
 by_cases h1:(s.shores.length:Int) > 200
 ·rw [decide_eq_true h1];rfl
 by_cases h2:(s.currents.length:Int) > 3000
 ·rw [decide_eq_true h2,decide_eq_false h1];rfl
 rw [decide_eq_false h1,decide_eq_false h2,if_neg (by decide),amx s K (by omega) (by omega),Option.bind_some,amw,Option.bind_some,amv,Option.bind_some]
 unfold rE Fz
 cases RG s
 ·rfl
 cases uq v
 ·rfl
 cases uK x
 ·rfl
 by_cases h3:t ≥ 0
 ·rw [if_pos rfl,if_pos rfl,if_pos rfl,if_pos h3,show decide (0≤t) = true from decide_eq_true h3];rfl
 ·rw [if_pos rfl,if_pos rfl,if_pos rfl,if_neg h3,show decide (0≤t) = false from decide_eq_false h3];rfl
end Go.Proofs.Ytmhaiihjfgfaoaa.Gl
end
