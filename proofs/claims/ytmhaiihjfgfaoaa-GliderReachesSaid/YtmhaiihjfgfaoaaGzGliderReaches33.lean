import Derived.SizedLaws
import Derived.ChangeSlices
import Derived.Deep.Slices
import Derived.ChangeArms
import Derived.DataReads
import Derived.WideShapes
import Derived.Test.YtmhaiihjfgfaoaaGzGliderReaches3
import Derived.Test.YtmhaiihjfgfaoaaGzGliderReaches12
import Derived.Test.YtmhaiihjfgfaoaaGzGliderReaches30
import Derived.Test.YtmhaiihjfgfaoaaGzGliderReaches13
import Derived.Test.YtmhaiihjfgfaoaaGzGliderReaches21
import Derived.Test.YtmhaiihjfgfaoaaGzGliderReaches22
import Derived.Test.YtmhaiihjfgfaoaaGzGliderReaches14
import Derived.Test.YtmhaiihjfgfaoaaGzGliderReaches17
import Derived.Test.YtmhaiihjfgfaoaaGzGliderReaches15
import Derived.Test.YtmhaiihjfgfaoaaGzGliderReaches16
import Derived.Test.YtmhaiihjfgfaoaaGzGliderReaches18
set_option linter.unusedSimpArgs false
set_option linter.unusedVariables false
section
namespace Go.Proofs.YtmhaiihjfgfaoaaW.PrintWords
open Go.ChangeShapes Go.WideShapes
end Go.Proofs.YtmhaiihjfgfaoaaW.PrintWords
end
section
namespace Go.Proofs.YtmhaiihjfgfaoaaW.iZ
open Go.RowKit Go.Proofs.YtmhaiihjfgfaoaaW.PrintWords Go.Deep Go.ChangeShapes Go.WideShapes
set_option linter.unusedVariables false
section
variable {H:Type} {enc:TypeId × Value→H} {P:Program}
def iZ {α:Type} (enc:TypeId × Value→H) (P:Program) (t:TypeId) (K:Kd α) (G:α→Prop):Prop :=
 ∀ (w:World) (fuel:Nat) (cs:List Value) (x:DataW H × List MemPlace),DataW.trod enc P w 0 (fun _=>true) true fuel t cs = some x→(DataW.weights P t x.1).all (·≤reachBytes) = true→∃ y,K.K w y cs∧G y
theorem iZ.int {t:TypeId} {k:IntKind} (hu:P.underlying t = some (.int k)):iZ enc P t (Kd.int k) (fun n=>(Lit.int k n).wf = true):=by
 intro w fuel cs x h _
 cases fuel with
 |zero=>simp [DataW.trod] at h
 |succ n =>
  unfold DataW.trod at h
  rw [hu] at h
  split at h <;> simp_all
  obtain ⟨⟨rfl,hw⟩,_⟩:=h
  rename_i n _ _
  exact ⟨_,rfl,hw⟩
theorem iZ.bool {t:TypeId} (hu:P.underlying t = some .bool):iZ enc P t Kd.bool (fun _=>True):=by
 intro w fuel cs x h _
 cases fuel with
 |zero=>simp [DataW.trod] at h
 |succ n =>
  unfold DataW.trod at h
  rw [hu] at h
  split at h <;> simp_all
  rename_i b _
  cases b
  ·exact .inl rfl
  ·exact .inr rfl
def jB {α:Type} (enc:TypeId × Value→H) (P:Program) (off:Nat) (fs:List Field) (K:Kd α) (G:α→Prop):Prop :=
 ∀ (w:World) (fuel:Nat) (cs:List Value) (xs:List (DataW H × List MemPlace)),cs.length = off+K.sz→xs.length = fs.length→
  (∀ (i:Nat) (f:Field),fs[i]? = some f→DataW.trod enc P w 0 (fun _=>true) true fuel f.type ((cs.drop f.offset).take (P.cellsOf f.type)) = xs[i]?)→
  (DataW.weightsEach P (fs.map (·.type)) (xs.map (·.1))).all (·≤reachBytes) = true→∃ y,K.K w y (cs.drop off)∧G y
theorem jB.one {α:Type} {off:Nat} {f:Field} {K:Kd α} {G:α→Prop} (hoff:f.offset = off) (hsz:P.cellsOf f.type = K.sz) (h:iZ enc P f.type K G):jB enc P off [f] K G:=by
 intro w fuel cs xs hl hx hi hw
 obtain ⟨x,rfl⟩:∃ x,xs = [x]:=by
  match xs,hx with
  |[x],_=>exact ⟨x,rfl⟩
 have h1:=hi 0 f rfl
 rw [hoff,hsz,List.take_of_length_le (by simp;omega)] at h1
 exact h w fuel _ x h1 (by simpa [DataW.weightsEach] using hw)
theorem jB.cons {α β:Type} {off:Nat} {f:Field} {fs:List Field} {K:Kd α} {G:α→Prop} {K':Kd β} {G':β→Prop} (hoff:f.offset = off) (hsz:P.cellsOf f.type = K.sz) (h:iZ enc P f.type K G) (h':jB enc P (off+K.sz) fs K' G'):
 jB enc P off (f :: fs) (Kd.pair K K') (fun y=>G y.1∧G' y.2):=by
 intro w fuel cs xs hl hx hi hw
 obtain ⟨x,xs',rfl⟩:∃ x xs',xs = x :: xs':=by
  match xs,hx with
  |x :: xs',_=>exact ⟨x,xs',rfl⟩
 have hl2:cs.length = off+(K.sz+K'.sz):=hl
 have h1:=hi 0 f rfl
 rw [hoff,hsz] at h1
 simp only [List.map_cons,DataW.weightsEach,List.all_append,Bool.and_eq_true] at hw
 obtain ⟨y,hy,gy⟩:=h w fuel _ x h1 hw.1
 obtain ⟨y',hy',gy'⟩:=h' w fuel cs xs' (by omega) (by simpa using hx) (fun i g hg=>by simpa using hi (i+1) g (by simpa using hg)) hw.2
 refine ⟨(y,y'),⟨_,_,?_,hy,hy'⟩,gy,gy'⟩
 rw [← List.drop_drop,List.take_append_drop]
theorem iZ.struct {α β:Type} {t:TypeId} {fs:Array Field} {K:Kd α} {G:α→Prop} {f:β→α} (g:α→β) (hu:P.underlying t = some (.struct fs)) (hsz:P.cellsOf t = K.sz) (hg:∀ y,f (g y) = y) (h:jB enc P 0 fs.toList K G):
 iZ enc P t (Kd.iso K f) (fun z=>G (f z)):=by
 intro w fuel cs x hx hw
 obtain ⟨xs,n,rfl,rfl,hl,hxl,hi⟩:=DataW.trod_struct hu hx
 obtain ⟨y,hy,gy⟩:=h w n cs xs (by omega) (by simpa using hxl) (fun i f hf=>hi i f (by simpa using hf)) (by simpa [DataW.weights,hu] using hw)
 refine ⟨g y,?_,by show G (f (g y));rw [hg];exact gy⟩
 show K.K w (f (g y)) cs
 rw [hg]
 simpa using hy
theorem Sj {α:Type} {Q:Nat→α→Prop}:∀ (n:Nat),(∀ i,i < n→∃ y,Q i y)→∃ ys:List α,ys.length = n∧∀ i y,ys[i]? = some y→Q i y
 |0,_=>⟨[],rfl,fun i y h=>by simp at h⟩
 |n+1,h=>by
  obtain ⟨ys,hl,hq⟩:=Sj n (fun i hi=>h i (by omega))
  obtain ⟨y,hy⟩:=h n (by omega)
  refine ⟨ys++[y],by simp [hl],fun i z hz=>?_⟩
  rw [List.getElem?_append] at hz
  split at hz
  ·exact hq i z hz
  ·rename_i hi
   obtain rfl:i = n:=by
    have:=(List.getElem?_eq_some_iff.1 hz).1
    simp at this
    omega
   simp [hl] at hz
   exact hz ▸ hy
theorem Ir {e:TypeId}:∀ {ds:List (DataW H)} {d:DataW H},(DataW.weightsAll P e ds).all (·≤reachBytes) = true→d ∈ ds→(DataW.weights P e d).all (·≤reachBytes) = true
 |[],_,_,h=>by cases h
 |a :: r,d,hw,h=>by
  simp only [DataW.weightsAll,List.all_append,Bool.and_eq_true] at hw
  rcases List.mem_cons.1 h with rfl|h
  ·exact hw.1
  ·exact Ir hw.2 h
theorem iZ.slice {α:Type} {t e:TypeId} (e':Nat) {K:Kd α} {G:α→Prop} (hu:P.underlying t = some (.slice e)) (hsz:P.cellsOf e = K.sz) (h:iZ enc P e K G):
 iZ enc P t (Kd.slice e' K) (fun ys=>(∀ y ∈ ys,G y)∧ys.length*P.bytesOf e≤reachBytes):=by
 intro w fuel cs x hx hw
 rcases open_slice hu hx with ⟨rfl,rfl⟩|⟨a,len,cap,m,n,D,Pl,rfl,hb,hl,hm,hmm,rfl,hi⟩
 ·exact ⟨[],⟨none,0,rfl,by simp,⟨rfl,by simp,fun h=>by simp at h⟩⟩,by simp,by simp⟩
 ·have hmc:m = cap:=by simpa using hmm
  subst hmc
  simp only [DataW.weights,hu,List.all_cons,List.all_append,Bool.and_eq_true,decide_eq_true_eq,List.length_map,List.length_range] at hw
  obtain ⟨ys,hyl,hys⟩:=Sj (Q:=fun i y=>(∃ cs',w.cells? 0 (a.add (i*P.cellsOf e)) (P.cellsOf e) = some cs'∧K.K w y cs')∧G y) len (fun i hil=>by
   obtain ⟨cs',hc,ht⟩:=hi i (by omega)
   obtain ⟨y,hy,gy⟩:=h w n cs' _ ht (Ir hw.2.1 (List.mem_map.2 ⟨i,List.mem_range.2 hil,rfl⟩))
   exact ⟨y,⟨cs',hc,hy⟩,gy⟩)
  refine ⟨ys,⟨some a,m,by rw [hyl],by omega,hyl.trans hyl.symm |>.trans (by rfl),?_,fun _=>⟨a,rfl,fun j p hj=>?_⟩⟩,fun y hy=>?_,?_⟩
  ·unfold maxLen at hm
   omega
  ·obtain ⟨⟨cs',hc,hk⟩,_⟩:=hys j p hj
   obtain ⟨_,hcl,hcell⟩:=World.cells?_some hc
   refine ⟨cs',by rw [hcl,hsz],hk,fun i u hu'=>?_⟩
   have hlt:=(List.getElem?_eq_some_iff.1 hu').1
   rw [← Go.Deep.add_add,← hsz,hcell i (by omega),hu']
  ·obtain ⟨j,hj⟩:=List.getElem?_of_mem hy
   exact (hys j y hj).2
  ·refine Nat.le_trans (Nat.mul_le_mul_right _ (show ys.length≤len+(m - len) by omega)) hw.1
theorem iZ.arg {α:Type} {t:TypeId} {K:Kd α} {G:α→Prop} (h:iZ enc P t K G) {w:World} {v:Value} {d:DataW H} {p:List MemPlace} (ht:DataW.Trod enc P w 0 (fun _=>true) true t v d p)
 {ts:List TypeId} {ds:List (DataW H)} (hsz:(DataW.weightsEach P ts ds).all (·≤reachBytes) = true) {j:Nat} (hj:ts[j]? = some t) (hd:ds[j]? = some d):∃ y,K.K w y v.cells.toList∧G y:=by
 obtain ⟨fuel,hf⟩:=ht
 exact h w fuel _ _ hf (List.all_eq_true.2 fun n hn=>List.all_eq_true.1 hsz _ (DataW.weights_mem_each hj hd n hn))
end
end Go.Proofs.YtmhaiihjfgfaoaaW.iZ
end
section
namespace Go.Proofs.Ytmhaiihjfgfaoaa.Good
open Go.RowKit Go.Proofs.YtmhaiihjfgfaoaaW.PrintWords Go.Proofs.YtmhaiihjfgfaoaaW.PrintLast Go.Proofs.YtmhaiihjfgfaoaaW.PrintMore Go.Proofs.Ytmhaiihjfgfaoaa.Pr Go.Proofs.YtmhaiihjfgfaoaaW.iZ
set_option linter.unusedVariables false
def W27 (x:lu):Prop:=(Lit.int .i64 x.f0).wf = true∧(Lit.int .i64 x.f1).wf = true
theorem J4 {H:Type} {enc:TypeId × Value→H}:iZ enc Try.prog 27 k27 W27:=iZ.struct (fun p=>⟨p.1,p.2⟩) Try.underlying27 aY (fun _=>rfl) (jB.cons rfl aY (iZ.int Try.underlying2) (jB.one rfl aY (iZ.int Try.underlying2)))
def W40 (x:oV):Prop:=W27 x.f0∧W27 x.f1
theorem ar6 {H:Type} {enc:TypeId × Value→H}:iZ enc Try.prog 40 DD W40:=iZ.struct (fun p=>⟨p.1,p.2⟩) Try.underlying40 aY (fun _=>rfl) (jB.cons rfl aY J4 (jB.one rfl aY J4))
def W25 (x:S25):Prop:=(Lit.int .i64 x.f0).wf = true∧(Lit.int .i64 x.f1).wf = true∧(Lit.int .i64 x.f2).wf = true∧(Lit.int .i64 x.f3).wf = true∧(Lit.int .i64 x.f4).wf = true∧(Lit.int .i64 x.f5).wf = true∧(Lit.int .i64 x.f6).wf = true∧((∀ y ∈ x.f7,True)∧x.f7.length*Try.prog.bytesOf 4≤reachBytes)∧((∀ y ∈ x.f8,W40 y)∧x.f8.length*Try.prog.bytesOf 40≤reachBytes)
theorem ar7 {H:Type} {enc:TypeId × Value→H}:iZ enc Try.prog 25 k25 W25:=iZ.struct (fun p=>⟨p.1,p.2.1,p.2.2.1,p.2.2.2.1,p.2.2.2.2.1,p.2.2.2.2.2.1,p.2.2.2.2.2.2.1,p.2.2.2.2.2.2.2.1,p.2.2.2.2.2.2.2.2⟩) Try.underlying25 aY (fun _=>rfl) (jB.cons rfl aY (iZ.int Try.underlying3) (jB.cons rfl aY (iZ.int Try.underlying3) (jB.cons rfl aY (iZ.int Try.underlying2) (jB.cons rfl aY (iZ.int Try.underlying2) (jB.cons rfl aY (iZ.int Try.underlying3) (jB.cons rfl aY (iZ.int Try.underlying3) (jB.cons rfl aY (iZ.int Try.underlying2) (jB.cons rfl aY (iZ.slice 4 Try.underlying22 aY (iZ.bool Try.underlying4)) (jB.one rfl aY (iZ.slice 40 Try.underlying23 aY ar6))))))))))
def W29 (x:S29):Prop:=(Lit.int .i64 x.f0).wf = true∧(Lit.int .i64 x.f1).wf = true∧W27 x.f2∧W27 x.f3∧(Lit.int .i64 x.f4).wf = true
theorem ar8 {H:Type} {enc:TypeId × Value→H}:iZ enc Try.prog 29 k29 W29:=iZ.struct (fun p=>⟨p.1,p.2.1,p.2.2.1,p.2.2.2.1,p.2.2.2.2⟩) Try.underlying29 aY (fun _=>rfl) (jB.cons rfl aY (iZ.int Try.underlying2) (jB.cons rfl aY (iZ.int Try.underlying2) (jB.cons rfl aY J4 (jB.cons rfl aY J4 (jB.one rfl aY (iZ.int Try.underlying2))))))
def W31 (x:dO):Prop:=W27 x.f0∧W27 x.f1
theorem Xl {H:Type} {enc:TypeId × Value→H}:iZ enc Try.prog 31 Iy W31:=iZ.struct (fun p=>⟨p.1,p.2⟩) Try.underlying31 aY (fun _=>rfl) (jB.cons rfl aY J4 (jB.one rfl aY J4))
def W81 (x:Zz):Prop:=W31 x.f0∧(Lit.int .i64 x.f1).wf = true∧(Lit.int .i64 x.f2).wf = true
theorem ar9 {H:Type} {enc:TypeId × Value→H}:iZ enc Try.prog 81 k81 W81:=iZ.struct (fun p=>⟨p.1,p.2.1,p.2.2⟩) Try.underlying81 aY (fun _=>rfl) (jB.cons rfl aY Xl (jB.cons rfl aY (iZ.int Try.underlying2) (jB.one rfl aY (iZ.int Try.underlying2))))
end Go.Proofs.Ytmhaiihjfgfaoaa.Good
end
section
namespace Go.Proofs.Ytmhaiihjfgfaoaa.Gl
open Go.RowKit Go.Proofs.YtmhaiihjfgfaoaaW.PrintWords Go.Proofs.YtmhaiihjfgfaoaaW.PrintLast Go.Proofs.YtmhaiihjfgfaoaaW.PrintMore Go.Proofs.Ytmhaiihjfgfaoaa.Pr
set_option linter.unusedVariables false
def qM (a b:dO):Prop:=b.f0.f0≤a.f0.f0∧a.f0.f1≤b.f0.f1∧b.f1.f0≤a.f1.f0∧a.f1.f1≤b.f1.f1
theorem qM.rfl' (a:dO):qM a a:=⟨Int.le_refl _,Int.le_refl _,Int.le_refl _,Int.le_refl _⟩
theorem qM.trans {a b c:dO} (h:qM a b) (k:qM b c):qM a c:=by unfold qM at*;omega
theorem qM.antisymm {a b:dO} (h:qM a b) (k:qM b a):a = b:=by
 obtain ⟨⟨a0,a1⟩,⟨a2,a3⟩⟩:=a
 obtain ⟨⟨b0,b1⟩,⟨b2,b3⟩⟩:=b
 unfold qM at*
 dsimp only at h k
 have e0:a0 = b0:=by omega
 have e1:a1 = b1:=by omega
 have e2:a2 = b2:=by omega
 have e3:a3 = b3:=by omega
 rw [e0,e1,e2,e3]
theorem Nk {a b:dO}:qM a (oJ a b)∧qM b (oJ a b):=by
 unfold qM oJ
 dsimp only
 omega
theorem agE {a b c:dO} (h:qM a c) (k:qM b c):qM (oJ a b) c:=by
 unfold qM oJ at*
 dsimp only
 omega
theorem Ul:∀ (l:List dO) (z:dO),∃ y,l.foldl Y8 (some z) = some y∧(qM z y∧∀ a ∈ l,qM a y)∧∀ b,qM z b→(∀ a ∈ l,qM a b)→qM y b
 |[],z=>⟨z,rfl,⟨qM.rfl' z,fun a h=>by cases h⟩,fun b h _=>h⟩
 |x :: l,z=>by
  obtain ⟨y,h,⟨h1,h2⟩,h3⟩:=Ul l (oJ z x)
  refine ⟨y,h,⟨Nk.1.trans h1,fun a ha=>?_⟩,fun b hb hl=>h3 b (agE hb (hl x (List.mem_cons_self ..))) fun a ha=>hl a (List.mem_cons_of_mem _ ha)⟩
  rcases List.mem_cons.1 ha with rfl|ha
  ·exact Nk.2.trans h1
  ·exact h2 a ha
theorem Xm {l:List dO} (h:l≠[]):∃ y,uR l = some y∧(∀ a ∈ l,qM a y)∧∀ b,(∀ a ∈ l,qM a b)→qM y b:=by
 cases l with
 |nil=>exact absurd rfl h
 |cons x l =>
  obtain ⟨y,h,⟨h1,h2⟩,h3⟩:=Ul l x
  refine ⟨y,h,fun a ha=>?_,fun b hl=>h3 b (hl x (List.mem_cons_self ..)) fun a ha=>hl a (List.mem_cons_of_mem _ ha)⟩
  rcases List.mem_cons.1 ha with rfl|ha
  ·exact h1
  ·exact h2 a ha
theorem Um {l l':List dO} (h:l≠[]) (hs:∀ a ∈ l,∃ b ∈ l',qM a b):qM (kg l) (kg l'):=by
 obtain ⟨y,e,h1,h2⟩:=Xm h
 have h':l'≠[]:=by
  intro e'
  cases l with
  |nil=>exact h rfl
  |cons x l =>
   obtain ⟨b,hb,_⟩:=hs x (List.mem_cons_self ..)
   rw [e'] at hb;cases hb
 obtain ⟨y',e',h1',h2'⟩:=Xm h'
 unfold kg
 rw [e,e']
 exact h2 y' fun a ha=>by
  obtain ⟨b,hb,hs⟩:=hs a ha
  exact hs.trans (h1' b hb)
theorem ajY {nx i0 k0 c:Int} {n m:Nat}:c ∈ allT nx i0 n k0 m↔∃ r:Nat,r < m∧∃ j:Nat,j < n∧c = (k0+(r:Int))*nx+(i0+(j:Int)):=by
 unfold allT agF
 simp only [List.mem_flatMap,List.mem_range,List.mem_map]
 constructor
 ·rintro ⟨r,hr,j,hj,rfl⟩
  exact ⟨r,hr,j,hj,rfl⟩
 ·rintro ⟨r,hr,j,hj,rfl⟩
  exact ⟨r,hr,j,hj,rfl⟩
theorem agG {nx a b c d k:Int}:k ∈ allT nx a (b+1 - a).toNat c (d+1 - c).toNat↔∃ r i:Int,(c≤r∧r≤d)∧(a≤i∧i≤b)∧k = r*nx+i:=by
 rw [ajY]
 constructor
 ·rintro ⟨r,hr,j,hj,rfl⟩
  exact ⟨c+r,a+j,by omega,by omega,rfl⟩
 ·rintro ⟨r,i,hr,hi,rfl⟩
  exact ⟨(r - c).toNat,by omega,(i - a).toNat,by omega,by rw [show c+((r - c).toNat:Int) = r from by omega,show a+((i - a).toNat:Int) = i from by omega]⟩
theorem Un {s:j3} {x:dO} {k:Int}:k ∈ uA s x↔∃ r i:Int,((uB s.cell x.f1 s.ny).1≤r∧r≤(uB s.cell x.f1 s.ny).2)∧((uB s.cell x.f0 s.nx).1≤i∧i≤(uB s.cell x.f0 s.nx).2)∧k = r*s.nx+i:=agG
theorem ajZ (c x:Int):xU c x≤x / c∧x / c - 1≤xU c x:=by unfold xU;split <;> omega
theorem Y9 {c most:Int} {a:lu} (hc:0 < c) (h:a.f0≤a.f1):(uB c a most).1≤(uB c a most).2:=by
 have:=(ajZ c a.f0).1
 have:=Int.ediv_le_ediv hc h
 unfold uB
 dsimp only
 omega
theorem aaS {s:j3} {x:dO} (hc:0 < s.cell) (h0:x.f0.f0≤x.f0.f1) (h1:x.f1.f0≤x.f1.f1):∃ k,k ∈ uA s x:=by
 have a:=Y9 (c:=s.cell) (most:=s.nx) (a:=x.f0) hc h0
 have b:=Y9 (c:=s.cell) (most:=s.ny) (a:=x.f1) hc h1
 exact ⟨_,Un.2 ⟨_,_,⟨Int.le_refl _,b⟩,⟨Int.le_refl _,a⟩,rfl⟩⟩
theorem OO {s:j3} {x:dO} {layer j0:Int} {q:Nat} {y:dO}:y ∈ je s x layer j0 q↔∃ r:Nat,r < q∧∃ c ∈ uA s x,y = Aa s layer (j0+(r:Int)) c:=by
 unfold je slotL
 simp only [List.mem_flatMap,List.mem_range,List.mem_map]
 constructor
 ·rintro ⟨r,hr,c,hc,rfl⟩
  exact ⟨r,hr,c,hc,rfl⟩
 ·rintro ⟨r,hr,c,hc,rfl⟩
  exact ⟨r,hr,c,hc,rfl⟩
theorem Uo {t u d:Int} (hd:0 < d) (h:t < u):0 < ((u - 1) / d+1 - t / d).toNat:=by
 have:=Int.ediv_le_ediv (a:=t) (b:=u - 1) hd (by omega)
 omega
theorem aj0 {s:j3} {v:nz} {x:dO} (hS:Dy s) (hV:wO v) (hx:kG x):(dQ s v x).f0.f0≤(dQ s v x).f0.f1∧(dQ s v x).f1.f0≤(dQ s v x).f1.f1:=by
 have:=(iF (a:=v.speed+s.most) (b:=v.dive) (m:=10000) (n:=131072) (by have:=hV.speed;have:=hS.most;omega) (by have:=hV.speed;have:=hS.most;omega) (by have:=hV.dive;omega) hV.dive.2).1
 unfold dQ
 obtain ⟨_,h0,h1⟩:=hx
 dsimp only
 omega
end Go.Proofs.Ytmhaiihjfgfaoaa.Gl
end
section
namespace Go.Proofs.Ytmhaiihjfgfaoaa.Gl
open Go.RowKit Go.Proofs.YtmhaiihjfgfaoaaW.PrintWords Go.Proofs.YtmhaiihjfgfaoaaW.PrintLast Go.Proofs.Ytmhaiihjfgfaoaa.Pr
def Sm (b:dO):Prop:=(-4000000≤b.f0.f0∧b.f0.f0≤b.f0.f1∧b.f0.f1≤4000000)∧-4000000≤b.f1.f0∧b.f1.f0≤b.f1.f1∧b.f1.f1≤4000000
theorem Sk {s:j3} {v:nz} {x:dO} {t hd layer:Int} (hS:ER s) (hV:wO v) (hx:kG x) (hr:ig s v x t = 0):Sm (kP s v x (dQ s v x) t hd layer):=by
 obtain ⟨_,_,⟨a0,a1⟩,b0,b1⟩:=D7 hS.n hV hx hr
 obtain ⟨_,o1,o2⟩:=hx
 have hdv:=hV.dive
 have hsp:=hV.speed
 have hdi:=PX hd
 have hai:=aa6 hS.cb (dQ s v x) layer t (t+v.dive)
 unfold kP oZ Sm Hy Xw
 dsimp only
 generalize SB s (dQ s v x) layer t (t+v.dive) = y at*
 generalize G9 hd = d at*
 obtain ⟨⟨y0,y1⟩,⟨y2,y3⟩,⟨y4,y5⟩,⟨y6,y7⟩,y8,y9⟩:=hai
 have m0:=lV (a:=d.1) (b:=v.speed) (m:=1000) (n:=5000) hdi.1.1 hdi.1.2 hsp.1 hsp.2 (by omega)
 have m1:=lV (a:=d.2) (b:=v.speed) (m:=1000) (n:=5000) hdi.2.1 hdi.2.2 hsp.1 hsp.2 (by omega)
 generalize d.1*v.speed = e at*
 generalize d.2*v.speed = f at*
 have n0:=lV (a:=e+1000*y.f0.f0) (b:=v.dive) (m:=10000000) (n:=131072) (by omega) (by omega) (by omega) (by omega) (by omega)
 have n1:=lV (a:=e+1000*y.f0.f1) (b:=v.dive) (m:=10000000) (n:=131072) (by omega) (by omega) (by omega) (by omega) (by omega)
 have n2:=lV (a:=f+1000*y.f1.f0) (b:=v.dive) (m:=10000000) (n:=131072) (by omega) (by omega) (by omega) (by omega) (by omega)
 have n3:=lV (a:=f+1000*y.f1.f1) (b:=v.dive) (m:=10000000) (n:=131072) (by omega) (by omega) (by omega) (by omega) (by omega)
 have k0:=Int.mul_le_mul_of_nonneg_right (show e+1000*y.f0.f0≤e+1000*y.f0.f1 by omega) (show 0≤v.dive by omega)
 have k1:=Int.mul_le_mul_of_nonneg_right (show f+1000*y.f1.f0≤f+1000*y.f1.f1 by omega) (show 0≤v.dive by omega)
 generalize (e+1000*y.f0.f0)*v.dive = A at*
 generalize (e+1000*y.f0.f1)*v.dive = B at*
 generalize (f+1000*y.f1.f0)*v.dive = C at*
 generalize (f+1000*y.f1.f1)*v.dive = E at*
 clear m0 m1 hdi hdv hsp hr
 omega
theorem Sm.ok {b:dO} (h:Sm b):kG b:=by unfold Sm at h;unfold kG EN;omega
theorem Sm.aPI {a b:dO} (h:Sm a) (k:Sm b):Sm (oJ a b):=by
 unfold Sm at*
 unfold oJ
 dsimp only
 omega
theorem aj1 {a b:Int} (h:a≤b) (h0:-4000000≤a) (h1:b≤4000000):Ki a b = true:=by rw [sU];omega
theorem Sm.vw {b:dO} (h:Sm b):vw b = true:=by
 unfold Sm at h
 unfold Gl.vw
 rw [aj1 h.1.2.1 h.1.1 h.1.2.2,aj1 h.2.2.1 h.2.1 h.2.2.2]
 simp only [Bool.true_and,Bool.and_eq_true,jK]
 omega
theorem Za {s:j3} {v:nz} {x g:dO} {t:Int}:∀ (l:List Hm) (A:dO),qM A (qK s v x g t A l)∧∀ c ∈ l,qM (kP s v x g t c.f0 c.f1) (qK s v x g t A l)
 |[],A=>⟨qM.rfl' A,fun c h=>by cases h⟩
 |d :: l,A=>by
  have ih:=Za (s:=s) (v:=v) (x:=x) (g:=g) (t:=t) l (oJ A (kP s v x g t d.f0 d.f1))
  have e:qK s v x g t A (d :: l) = qK s v x g t (oJ A (kP s v x g t d.f0 d.f1)) l:=rfl
  rw [e]
  refine ⟨Nk.1.trans ih.1,fun c hc=>?_⟩
  rcases List.mem_cons.1 hc with rfl|hc
  ·exact Nk.2.trans ih.1
  ·exact ih.2 c hc
theorem Py {s:j3} {v:nz} {x:dO} {t:Int} (hS:ER s) (hV:wO v) (hx:kG x) (hr:ig s v x t = 0):∀ (l:List Hm) (A:dO),Sm A→Sm (qK s v x (dQ s v x) t A l)
 |[],A,h=>h
 |c :: l,A,h=>Py hS hV hx hr l _ (h.aPI (Sk hS hV hx hr))
theorem Zb {s:j3} {v:nz} {x:dO} {t:Int} (hS:ER s) (hV:wO v) (hx:kG x) (hr:ig s v x t = 0):Sm (uQ s v x t):=Py hS hV hx hr _ _ (Sk hS hV hx hr)
def aut (s:j3) (v:nz):dO→Int→List dO→Prop
 |_,_,[]=>True
 |y,t,b :: l=>ig s v y t = 0∧kG b∧(∀ c ∈ MX s,qM (kP s v y (dQ s v y) t c.f0 c.f1) b)∧aut s v b (t+v.dive) l
theorem Sl {s:j3} {v:nz} (hS:ER s) (hV:wO v):∀ (n:Nat) (y:dO) (t:Int) (out:List dO),kG y→(iP s v n y t out).2 = 0→∃ Bs,(iP s v n y t out).1 = out++Bs∧Bs.length = n∧aut s v y t Bs∧∀ b ∈ Bs,Sm b
 |0,y,t,out,hy,h=>⟨[],by unfold iP;simp,rfl,trivial,fun b hb=>by cases hb⟩
 |n+1,y,t,out,hy,h=>by
  unfold iP at h ⊢
  by_cases hr:ig s v y t = 0
  case neg =>
   rw [if_pos hr] at h
   exact absurd h hr
  rw [if_neg (fun q=>q hr)] at h ⊢
  have hsm:=Zb hS hV hy hr
  obtain ⟨Bs,e,hl,hc,hb⟩:=Sl hS hV n _ _ _ hsm.ok h
  refine ⟨uQ s v y t :: Bs,by rw [e,List.append_assoc];rfl,by rw [List.length_cons,hl],⟨hr,hsm.ok,(Za _ _).2,hc⟩,fun b hb2=>?_⟩
  rcases List.mem_cons.1 hb2 with rfl|hb2
  ·exact hsm
  ·exact hb b hb2
theorem aaT (s:j3) (v:nz) (x:dO) (t:Int):ig s v x t = 0∨ig s v x t = 5:=by
 unfold ig
 split
 ·exact .inl rfl
 ·exact .inr rfl
end Go.Proofs.Ytmhaiihjfgfaoaa.Gl
end
section
namespace Go.Proofs.Ytmhaiihjfgfaoaa.Pr
open Go.RowKit Go.Proofs.YtmhaiihjfgfaoaaW.PrintWords Go.Proofs.YtmhaiihjfgfaoaaW.PrintLast Go.Proofs.YtmhaiihjfgfaoaaW.PrintMore
attribute [local go_sem] eD eF fD fE eG
set_option linter.unusedVariables false
set_option linter.unusedSimpArgs false
end Go.Proofs.Ytmhaiihjfgfaoaa.Pr
end
section
namespace Go.Proofs.Ytmhaiihjfgfaoaa.Gl
open Go.RowKit Go.Proofs.YtmhaiihjfgfaoaaW.PrintWords Go.Proofs.YtmhaiihjfgfaoaaW.PrintLast Go.Proofs.YtmhaiihjfgfaoaaW.PrintMore Go.Proofs.Ytmhaiihjfgfaoaa.Pr
set_option linter.unusedVariables false
theorem dY {x:Int} (h:-9223372036854775808≤x∧x < 9223372036854775808):wrap64 x = x:=by unfold wrap64;omega
theorem J5 (lo hi:Int):bL.f lo hi = some (Ki lo hi):=by
 unfold bL.f aV.f
 rw [show Ki lo hi = (decide (lo≤hi) && (decide (-1073741824≤lo) && decide (lo≤1073741824)) && (decide (-1073741824≤hi) && decide (hi≤1073741824))) from by
  rw [Bool.eq_iff_iff,sU];simp only [Bool.and_eq_true,decide_eq_true_eq];omega]
 by_cases h1:lo≤hi <;> by_cases h2:-1073741824≤lo <;> by_cases h3:lo≤1073741824 <;> by_cases h4:-1073741824≤hi <;> by_cases h5:hi≤1073741824 <;> simp [h1,h2,h3,h4,h5]
theorem Iu (lo hi a b:Int):bV.f lo hi a b = some (BD lo hi a b):=by
 unfold bV.f BD
 rw [J5,Option.bind_some]
 cases Ki lo hi with
 |false=>rfl
 |true =>
  by_cases h:a≤lo <;> simp [h]
theorem aaU (x lo hi:Int):aV.f x lo hi = some (lJ x lo hi):=by
 unfold aV.f lJ
 by_cases h:lo≤x <;> simp [h]
theorem Xn (x:dO):dF.f x.f0.f0 x.f0.f1 x.f1.f0 x.f1.f1 = some (vw x):=by
 unfold dF.f vw
 simp only [J5,aaU,Option.bind_some]
 cases Ki x.f0.f0 x.f0.f1 <;> cases Ki x.f1.f0 x.f1.f1 <;> cases lJ x.f0.f0 (-268435456) 268435456 <;> cases lJ x.f0.f1 (-268435456) 268435456 <;> cases lJ x.f1.f0 (-268435456) 268435456 <;> cases lJ x.f1.f1 (-268435456) 268435456 <;> rfl
theorem asa (v:nz):gF.f v.speed v.dive v.use.f0 v.use.f1 v.drift.f0 v.drift.f1 v.reserve = some (Rl v):=by
 unfold gF.f Rl ZT lJ
 simp only [Iu,Option.bind_some]
 by_cases h1:v.speed < 0
 ·rw [if_pos h1,show decide (0≤v.speed) = false from decide_eq_false (by omega)];rfl
 rw [if_neg h1,show decide (0≤v.speed) = true from decide_eq_true (by omega)]
 by_cases h2:v.speed > 5000
 ·rw [if_pos h2,show decide (v.speed≤5000) = false from decide_eq_false (by omega)];rfl
 rw [if_neg h2,show decide (v.speed≤5000) = true from decide_eq_true (by omega)]
 by_cases h3:v.dive < 1
 ·rw [if_pos h3,show decide (1≤v.dive) = false from decide_eq_false (by omega)];rfl
 rw [if_neg h3,show decide (1≤v.dive) = true from decide_eq_true (by omega)]
 by_cases h4:v.dive > 131072
 ·rw [if_pos h4,show decide (v.dive≤131072) = false from decide_eq_false (by omega)];rfl
 rw [if_neg h4,show decide (v.dive≤131072) = true from decide_eq_true (by omega)]
 cases BD v.use.f0 v.use.f1 0 1073741824
 ·rfl
 cases BD v.drift.f0 v.drift.f1 0 1073741824
 ·rfl
 by_cases h5:v.reserve < 0
 ·rw [if_pos h5,show decide (0≤v.reserve) = false from decide_eq_false (by omega)];rfl
 rw [if_neg h5,show decide (0≤v.reserve) = true from decide_eq_true (by omega)]
 by_cases h6:v.reserve > 1073741824
 ·rw [if_pos h6,show decide (v.reserve≤1073741824) = false from decide_eq_false (by omega)];rfl
 rw [if_neg h6,show decide (v.reserve≤1073741824) = true from decide_eq_true (by omega)];rfl
theorem Zc (s:j3) (hm:0≤s.most∧s.most≤5000) (hl:s.currents.length≤100000):∀ (m i K:Nat),i+m = s.currents.length→m+1≤K→
 ak.l0 K (i:Int) s.nx s.ny s.cell s.slot s.slots s.layers s.most s.shores s.currents = some (if (s.currents.drop i).any (SL s.most) then 2 else 0)
 |0,i,K+1,h,hk=>by
  rw [ak.l0,if_neg (by omega),List.drop_eq_nil_of_le (by omega)];rfl
 |m+1,i,K+1,h,hk=>by
  have hi:i < s.currents.length:=by omega
  rw [ak.l0,if_pos (by omega),if_pos (by omega),dY (x:=-s.most) (by omega),dY (x:=(i:Int)+1) (by omega)]
  have e:bu s.currents (i:Int) = s.currents[i]:=by
   unfold bu
   simp [hi]
  rw [e,Iu,Option.bind_some,Iu,Option.bind_some,List.drop_eq_getElem_cons hi,List.any_cons]
  have ih:=Zc s hm hl m (i+1) K (by omega) (by omega)
  rw [show ((i+1:Nat):Int) = (i:Int)+1 from by omega] at ih
  rw [ih,show SL s.most s.currents[i] = (!BD s.currents[i].f0.f0 s.currents[i].f0.f1 (-s.most) s.most || !BD s.currents[i].f1.f0 s.currents[i].f1.f1 (-s.most) s.most) from rfl]
  cases BD s.currents[i].f0.f0 s.currents[i].f0.f1 (-s.most) s.most
  ·rfl
  cases BD s.currents[i].f1.f0 s.currents[i].f1.f1 (-s.most) s.most
  ·rfl
  rfl
theorem asb (s:j3) (K:Nat) (hl:s.currents.length≤100000) (hk:s.currents.length+3≤K):ak.f K s.nx s.ny s.cell s.slot s.slots s.layers s.most s.shores s.currents = some (zQ s):=by
 obtain ⟨K,rfl⟩:∃ k,K = k+2:=⟨K - 2,by omega⟩
 have hj:ak.j0 (K+2) true s.nx s.ny s.cell s.slot s.slots s.layers s.most s.shores s.currents = some 2:=by rw [ak.j0,if_pos rfl]
 unfold ak.f zQ XK
 rw [hj]
 unfold lJ
 by_cases h1:s.nx < 1
 ·rw [if_pos h1,show decide (1≤s.nx) = false from decide_eq_false (by omega)];rfl
 rw [if_neg h1,show decide (1≤s.nx) = true from decide_eq_true (by omega)]
 by_cases h2:s.nx > 12
 ·rw [if_pos h2,show decide (s.nx≤12) = false from decide_eq_false (by omega)];rfl
 rw [if_neg h2,show decide (s.nx≤12) = true from decide_eq_true (by omega)]
 by_cases h3:s.ny < 1
 ·rw [if_pos h3,show decide (1≤s.ny) = false from decide_eq_false (by omega)];rfl
 rw [if_neg h3,show decide (1≤s.ny) = true from decide_eq_true (by omega)]
 by_cases h4:s.ny > 12
 ·rw [if_pos h4,show decide (s.ny≤12) = false from decide_eq_false (by omega)];rfl
 rw [if_neg h4,show decide (s.ny≤12) = true from decide_eq_true (by omega)]
 by_cases h5:s.cell < 100
 ·rw [if_pos h5,show decide (100≤s.cell) = false from decide_eq_false (by omega)];rfl
 rw [if_neg h5,show decide (100≤s.cell) = true from decide_eq_true (by omega)]
 by_cases h6:s.cell > 65536
 ·rw [if_pos h6,show decide (s.cell≤65536) = false from decide_eq_false (by omega)];rfl
 rw [if_neg h6,show decide (s.cell≤65536) = true from decide_eq_true (by omega)]
 by_cases h7:s.slot < 1
 ·rw [if_pos h7,show decide (1≤s.slot) = false from decide_eq_false (by omega)];rfl
 rw [if_neg h7,show decide (1≤s.slot) = true from decide_eq_true (by omega)]
 by_cases h8:s.slot > 1048576
 ·rw [if_pos h8,show decide (s.slot≤1048576) = false from decide_eq_false (by omega)];rfl
 rw [if_neg h8,show decide (s.slot≤1048576) = true from decide_eq_true (by omega)]
 by_cases h9:s.slots < 1
 ·rw [if_pos h9,show decide (1≤s.slots) = false from decide_eq_false (by omega)];rfl
 rw [if_neg h9,show decide (1≤s.slots) = true from decide_eq_true (by omega)]
 by_cases h10:s.slots > 16
 ·rw [if_pos h10,show decide (s.slots≤16) = false from decide_eq_false (by omega)];rfl
 rw [if_neg h10,show decide (s.slots≤16) = true from decide_eq_true (by omega)]
 by_cases h11:s.layers < 1
 ·rw [if_pos h11,show decide (1≤s.layers) = false from decide_eq_false (by omega)];rfl
 rw [if_neg h11,show decide (1≤s.layers) = true from decide_eq_true (by omega)]
 by_cases h12:s.layers > 3
 ·rw [if_pos h12,show decide (s.layers≤3) = false from decide_eq_false (by omega)];rfl
 rw [if_neg h12,show decide (s.layers≤3) = true from decide_eq_true (by omega)]
 by_cases h13:s.most < 0
 ·rw [if_pos h13,show decide (0≤s.most) = false from decide_eq_false (by omega)];rfl
 rw [if_neg h13,show decide (0≤s.most) = true from decide_eq_true (by omega)]
 by_cases h14:s.most > 5000
 ·rw [show decide (s.most > 5000) = true from decide_eq_true h14,hj,show decide (s.most≤5000) = false from decide_eq_false (by omega)];rfl
 rw [show decide (s.most > 5000) = false from decide_eq_false h14,show decide (s.most≤5000) = true from decide_eq_true (by omega)]
 obtain ⟨n0,n1⟩:=iF (a:=s.nx) (b:=s.ny) (m:=12) (n:=12) (by omega) (by omega) (by omega) (by omega)
 obtain ⟨m0,m1⟩:=iF (a:=s.slots) (b:=s.layers) (m:=16) (n:=3) (by omega) (by omega) (by omega) (by omega)
 obtain ⟨q0,q1⟩:=iF (a:=s.slots*s.layers) (b:=s.nx*s.ny) (m:=48) (n:=144) (by omega) (by omega) (by omega) (by omega)
 obtain ⟨p0,p1⟩:=iF (a:=s.slots*s.layers) (b:=s.nx) (m:=48) (n:=12) (by omega) (by omega) (by omega) (by omega)
 have ea:s.layers*s.slots = s.slots*s.layers:=Int.mul_comm _ _
 have eb:s.slots*s.layers*s.nx*s.ny = s.slots*s.layers*(s.nx*s.ny):=by rw [Int.mul_assoc]
 rw [ak.j0,if_neg (by decide),dY (x:=s.nx*s.ny) (by omega)]
 by_cases h15:(s.shores.length:Int) = s.nx*s.ny
 ·rw [if_pos h15,decide_eq_true h15,ak.j1,dY (x:=s.slots*s.layers) (by omega),dY (x:=s.slots*s.layers*s.nx) (by omega),eb,dY (x:=s.slots*s.layers*(s.nx*s.ny)) (by omega)]
  by_cases h16:(s.currents.length:Int) = s.slots*s.layers*(s.nx*s.ny)
  ·rw [if_neg (by rw [h16];simp),decide_eq_true h16]
   have:=Zc s (by omega) hl s.currents.length 0 K (by omega) (by omega)
   rw [show ((0:Nat):Int) = 0 from rfl,List.drop_zero] at this
   rw [this]
   cases s.currents.any (SL s.most) <;> rfl
  ·rw [if_pos (by simpa using h16),decide_eq_false h16];rfl
 ·rw [if_neg h15,decide_eq_false h15,ak.j1,if_pos rfl];rfl
theorem agH (s:j3):fG.f s.nx s.ny s.cell s.slot s.slots s.layers s.most s.shores s.currents = some (decide ((s.shores.length:Int) > 200) || decide ((s.currents.length:Int) > 3000)):=by
 unfold fG.f
 by_cases h:(s.shores.length:Int) > 200 <;> simp [h]
end Go.Proofs.Ytmhaiihjfgfaoaa.Gl
end
section
namespace Go.Proofs.Ytmhaiihjfgfaoaa.Pr
open Go.RowKit Go.Proofs.YtmhaiihjfgfaoaaW.PrintWords Go.Proofs.YtmhaiihjfgfaoaaW.PrintLast Go.Proofs.YtmhaiihjfgfaoaaW.PrintMore
attribute [local go_sem] eD eF fD fE eG
set_option linter.unusedVariables false
set_option linter.unusedSimpArgs false
end Go.Proofs.Ytmhaiihjfgfaoaa.Pr
end
section
namespace Go.Proofs.Ytmhaiihjfgfaoaa.Gl
open Go.RowKit Go.Proofs.YtmhaiihjfgfaoaaW.PrintWords Go.Proofs.YtmhaiihjfgfaoaaW.PrintLast Go.Proofs.YtmhaiihjfgfaoaaW.PrintMore Go.Proofs.Ytmhaiihjfgfaoaa.Pr
set_option linter.unusedVariables false
def KQ (s:j3) (x:dO) (c:Int):Bool:=(decide (x.f0.f0≤(c % s.nx+1)*s.cell) && decide (c % s.nx*s.cell≤x.f0.f1)) && (decide (x.f1.f0≤(c / s.nx+1)*s.cell) && decide (c / s.nx*s.cell≤x.f1.f1))
theorem Q4 {c lo hi most i:Int} (hc:0 < c) (h0:0≤lo) (h1:lo≤hi) (h2:hi≤most*c) (hi0:0≤i) (hi1:i≤most - 1):
 (min (xU c lo) (most - 1)≤i∧i≤min (hi / c) (most - 1))↔(lo≤(i+1)*c∧i*c≤hi):=by
 have a:i≤hi / c↔i*c≤hi:=Int.le_ediv_iff_mul_le hc
 have q0:0≤lo / c:=Int.ediv_nonneg h0 (by omega)
 have dm:=Int.emod_add_mul_ediv lo c
 have m0:=Int.emod_nonneg lo (show c≠0 by omega)
 have b:xU c lo≤i↔lo≤(i+1)*c:=by
  have e:(i+1)*c = i*c+c:=by rw [Int.add_mul,Int.one_mul]
  unfold xU
  by_cases hz:lo % c = 0
  ·have hq:(lo / c≤i+1)↔lo≤(i+1)*c:=by
    constructor
    ·intro h
     have:=Int.mul_le_mul_of_nonneg_right h (show 0≤c by omega)
     rw [Int.mul_comm (lo / c) c] at this
     omega
    ·intro h
     have:=Int.ediv_le_ediv hc h
     rw [Int.mul_ediv_cancel _ (show c≠0 by omega)] at this
     exact this
   by_cases hp:0 < lo / c
   ·rw [if_pos ⟨hp,hz⟩,← hq];omega
   ·rw [if_neg (fun q=>hp q.1),← hq];omega
  ·rw [if_neg (fun q=>hz q.2)]
   constructor
   ·intro h
    have h':lo / c < i+1:=by omega
    have:=(Int.ediv_lt_iff_lt_mul hc).1 h'
    omega
   ·intro h
    have h':lo < (i+1)*c:=by
     rcases Int.lt_or_eq_of_le h with h|h
     ·exact h
     ·exfalso
      apply hz
      rw [h,Int.mul_emod_left]
    have:=(Int.ediv_lt_iff_lt_mul hc).2 h'
    omega
 have last:i = most - 1→lo≤(i+1)*c:=by
  intro e
  rw [e,Int.sub_add_cancel]
  omega
 rw [← a,← b]
 constructor
 ·rintro ⟨h,k⟩
  refine ⟨?_,by omega⟩
  by_cases e:i = most - 1
  ·exact b.2 (last e)
  ·omega
 ·rintro ⟨h,k⟩
  omega
theorem Uq {s:j3} {x:dO} (hN:Dy s) (hx0:x.f0.f0≤x.f0.f1) (hx1:x.f1.f0≤x.f1.f1) (hc:iI s x = true) {c:Int}:c ∈ uA s x↔(0≤c∧c < s.nx*s.ny)∧KQ s x c = true:=by
 unfold iI at hc
 simp only [Bool.and_eq_true,decide_eq_true_eq] at hc
 obtain ⟨⟨⟨c0,c1⟩,c2⟩,c3⟩:=hc
 have pc:0 < s.cell:=by have:=hN.cell;omega
 have pn:0 < s.nx:=by have:=hN.nx;omega
 have pm:0 < s.ny:=by have:=hN.ny;omega
 rw [Un]
 unfold KQ
 simp only [Bool.and_eq_true,decide_eq_true_eq]
 have f0:∀ lo k:Int,0≤lo→0 < k→0≤(min (xU s.cell lo) (k - 1)):=by
  intro lo k h hk
  have q0:0≤lo / s.cell:=Int.ediv_nonneg h (by omega)
  have:0≤xU s.cell lo:=by unfold xU;split <;> omega
  omega
 constructor
 ·rintro ⟨r,i,hr,hi,e⟩
  have hi0:0≤i:=Int.le_trans (f0 _ _ c0 pn) hi.1
  have hr0:0≤r:=Int.le_trans (f0 _ _ c1 pm) hr.1
  have hi1:i≤s.nx - 1:=by have:=hi.2;unfold uB at this;dsimp only at this;omega
  have hr1:r≤s.ny - 1:=by have:=hr.2;unfold uB at this;dsimp only at this;omega
  have em:c % s.nx = i:=by rw [e,Int.add_comm,Int.add_mul_emod_self_right,Int.emod_eq_of_lt hi0 (by omega)]
  have ed:c / s.nx = r:=by rw [e,Int.add_comm,Int.add_mul_ediv_right _ _ (by omega),Int.ediv_eq_zero_of_lt hi0 (by omega),Int.zero_add]
  have p1:0≤r*s.nx:=Int.mul_nonneg hr0 (by omega)
  have p2:r*s.nx≤(s.ny - 1)*s.nx:=Int.mul_le_mul_of_nonneg_right hr1 (by omega)
  have p3:(s.ny - 1)*s.nx = s.nx*s.ny - s.nx:=by rw [Int.sub_mul,Int.mul_comm,Int.one_mul]
  rw [em,ed]
  exact ⟨⟨by omega,by omega⟩,(Q4 pc c0 hx0 c2 hi0 hi1).1 hi,(Q4 pc c1 hx1 c3 hr0 hr1).1 hr⟩
 ·rintro ⟨⟨k0,k1⟩,h0,h1⟩
  have hi0:0≤c % s.nx:=Int.emod_nonneg _ (by omega)
  have hi1:c % s.nx≤s.nx - 1:=by have:=Int.emod_lt_of_pos c pn;omega
  have hr0:0≤c / s.nx:=Int.ediv_nonneg k0 (by omega)
  have hr1:c / s.nx≤s.ny - 1:=by have:=(Int.ediv_lt_iff_lt_mul (a:=c) (b:=s.ny) pn).2 (by rw [Int.mul_comm];exact k1);omega
  refine ⟨c / s.nx,c % s.nx,(Q4 pc c1 hx1 c3 hr0 hr1).2 h1,(Q4 pc c0 hx0 c2 hi0 hi1).2 h0,?_⟩
  have:=Int.emod_add_mul_ediv c s.nx
  rw [Int.mul_comm] at this
  omega
def OP (s:j3) (x:dO) (layer j:Int):Nat→Int→List dO
 |0,_=>[]
 |m+1,c=>(if KQ s x c then [Aa s layer j c] else [])++OP s x layer j m (c+1)
def OQ (s:j3) (x:dO) (layer t u:Int):Nat→Int→List dO
 |0,_=>[]
 |q+1,j=>(if u≤j*s.slot∨(j+1)*s.slot≤t then [] else OP s x layer j (s.nx*s.ny).toNat 0)++OQ s x layer t u q (j+1)
theorem Sn {s:j3} {x:dO} {layer j:Int} {y:dO}:∀ (m:Nat) (c:Int),y ∈ OP s x layer j m c↔∃ k,(c≤k∧k < c+(m:Int))∧KQ s x k = true∧y = Aa s layer j k
 |0,c=>by
  unfold OP
  constructor
  ·intro h;cases h
  ·rintro ⟨k,h,_⟩;omega
 |m+1,c=>by
  unfold OP
  rw [List.mem_append,Sn m (c+1)]
  constructor
  ·rintro (h|⟨k,h,h1,h2⟩)
   ·by_cases ht:KQ s x c = true
    ·rw [if_pos ht,List.mem_singleton] at h
     exact ⟨c,by omega,ht,h⟩
    ·rw [if_neg ht] at h;cases h
   ·exact ⟨k,by omega,h1,h2⟩
  ·rintro ⟨k,h,h1,h2⟩
   by_cases e:k = c
   ·subst e
    left
    rw [if_pos h1,List.mem_singleton];exact h2
   ·exact Or.inr ⟨k,by omega,h1,h2⟩
theorem Zd {s:j3} {x:dO} {layer t u:Int} {y:dO}:∀ (q:Nat) (j:Int),y ∈ OQ s x layer t u q j↔∃ i,(j≤i∧i < j+(q:Int))∧(i*s.slot < u∧t < (i+1)*s.slot)∧y ∈ OP s x layer i (s.nx*s.ny).toNat 0
 |0,j=>by
  unfold OQ
  constructor
  ·intro h;cases h
  ·rintro ⟨k,h,_⟩;omega
 |q+1,j=>by
  unfold OQ
  rw [List.mem_append,Zd q (j+1)]
  constructor
  ·rintro (h|⟨k,h,h1,h2⟩)
   ·by_cases ht:u≤j*s.slot∨(j+1)*s.slot≤t
    ·rw [if_pos ht] at h;cases h
    ·rw [if_neg ht] at h
     exact ⟨j,by omega,by omega,h⟩
   ·exact ⟨k,by omega,h1,h2⟩
  ·rintro ⟨k,h,h1,h2⟩
   by_cases e:k = j
   ·subst e
    left
    rw [if_neg (by omega)];exact h2
   ·exact Or.inr ⟨k,by omega,h1,h2⟩
theorem agI {s:j3} {x:dO} {layer t u:Int} (hN:Dy s) (hx0:x.f0.f0≤x.f0.f1) (hx1:x.f1.f0≤x.f1.f1) (hc:iI s x = true) (ht0:0≤t) (htu:t < u) (hu:u≤s.slots*s.slot):
 kg (OQ s x layer t u s.slots.toNat 0) = SB s x layer t u:=by
 have pd:0 < s.slot:=by have:=hN.slot;omega
 have ps:0 < s.slots:=by have:=hN.slots;omega
 have pnn:0≤s.nx*s.ny:=Int.mul_nonneg (by have:=hN.nx;omega) (by have:=hN.ny;omega)
 have pc:0 < s.cell:=by have:=hN.cell;omega
 have hm:∀ y,y ∈ OQ s x layer t u s.slots.toNat 0↔y ∈ je s x layer (t / s.slot) ((u - 1) / s.slot+1 - t / s.slot).toNat:=by
  intro y
  rw [Zd,OO]
  constructor
  ·rintro ⟨i,hi,⟨h1,h2⟩,hy⟩
   obtain ⟨k,hk,hk1,e⟩:=(Sn _ _).1 hy
   have a1:i≤(u - 1) / s.slot:=(Int.le_ediv_iff_mul_le pd).2 (by omega)
   have a2:t / s.slot < i+1:=(Int.ediv_lt_iff_lt_mul pd).2 h2
   refine ⟨(i - t / s.slot).toNat,by omega,k,(Uq hN hx0 hx1 hc).2 ⟨by omega,hk1⟩,?_⟩
   rw [show t / s.slot+((i - t / s.slot).toNat:Int) = i from by omega];exact e
  ·rintro ⟨r,hr,c,hc',e⟩
   obtain ⟨h0,h1⟩:=(Uq hN hx0 hx1 hc).1 hc'
   have t0:0≤t / s.slot:=Int.ediv_nonneg ht0 (by omega)
   have a1:(t / s.slot+(r:Int))*s.slot≤u - 1:=(Int.le_ediv_iff_mul_le pd).1 (by omega)
   have a2:t < (t / s.slot+(r:Int)+1)*s.slot:=(Int.ediv_lt_iff_lt_mul pd).1 (by omega)
   have a3:t / s.slot+(r:Int) < s.slots:=by
    by_cases h:t / s.slot+(r:Int) < s.slots
    ·exact h
    ·exfalso
     have:=Int.mul_le_mul_of_nonneg_right (show s.slots≤t / s.slot+(r:Int) by omega) (show 0≤s.slot by omega)
     omega
   exact ⟨t / s.slot+(r:Int),by omega,⟨by omega,a2⟩,(Sn _ _).2 ⟨c,by omega,h1,e⟩⟩
 obtain ⟨k,hk⟩:=aaS (s:=s) pc hx0 hx1
 have hne:je s x layer (t / s.slot) ((u - 1) / s.slot+1 - t / s.slot).toNat≠[]:=List.ne_nil_of_mem (OO.2 ⟨0,Uo pd htu,k,hk,rfl⟩)
 have hne':OQ s x layer t u s.slots.toNat 0≠[]:=List.ne_nil_of_mem ((hm _).2 (OO.2 ⟨0,Uo pd htu,k,hk,rfl⟩))
 exact qM.antisymm (Um hne' fun a ha=>⟨a,(hm a).1 ha,qM.rfl' a⟩) (Um hne fun a ha=>⟨a,(hm a).2 ha,qM.rfl' a⟩)
theorem aj2 (s:j3) (hN:Dy s) (c:Int) (h0:0≤c) (h1:c < s.nx*s.ny):jY.f s.nx s.ny s.cell s.slot s.slots s.layers s.most s.shores s.currents c = some (c % s.nx*s.cell,(c % s.nx+1)*s.cell,c / s.nx*s.cell,(c / s.nx+1)*s.cell):=by
 have pn:0 < s.nx:=by have:=hN.nx;omega
 have hi0:0≤c % s.nx:=Int.emod_nonneg _ (by omega)
 have hi1:c % s.nx < s.nx:=Int.emod_lt_of_pos c pn
 have hr0:0≤c / s.nx:=Int.ediv_nonneg h0 (by omega)
 have hr1:c / s.nx < s.ny:=(Int.ediv_lt_iff_lt_mul (a:=c) (b:=s.ny) pn).2 (by rw [Int.mul_comm];exact h1)
 have n1:=hN.nx;have n2:=hN.ny;have n3:=hN.cell
 obtain ⟨a0,a1⟩:=iF (a:=c % s.nx) (b:=s.cell) (m:=12) (n:=65536) (by omega) (by omega) (by omega) (by omega)
 obtain ⟨b0,b1⟩:=iF (a:=c % s.nx+1) (b:=s.cell) (m:=12) (n:=65536) (by omega) (by omega) (by omega) (by omega)
 obtain ⟨d0,d1⟩:=iF (a:=c / s.nx) (b:=s.cell) (m:=12) (n:=65536) (by omega) (by omega) (by omega) (by omega)
 obtain ⟨e0,e1⟩:=iF (a:=c / s.nx+1) (b:=s.cell) (m:=12) (n:=65536) (by omega) (by omega) (by omega) (by omega)
 unfold jY.f
 rw [if_neg (by omega),Int.tmod_eq_emod_of_nonneg h0,Int.tdiv_eq_ediv_of_nonneg h0,dY (x:=c / s.nx) (by omega),dY (x:=c % s.nx+1) (by omega),dY (x:=c / s.nx+1) (by omega),dY (x:=c % s.nx*s.cell) (by omega),dY (x:=(c % s.nx+1)*s.cell) (by omega),dY (x:=c / s.nx*s.cell) (by omega),dY (x:=(c / s.nx+1)*s.cell) (by omega)]
theorem Pz (x:dO) (a b c d:Int):fI.f x.f0.f0 x.f0.f1 x.f1.f0 x.f1.f1 a b c d = some ((decide (x.f0.f0≤b) && decide (a≤x.f0.f1)) && (decide (x.f1.f0≤d) && decide (c≤x.f1.f1))):=by
 unfold fI.f fU.f
 by_cases h1:x.f0.f0≤b <;> by_cases h2:a≤x.f0.f1 <;> by_cases h3:x.f1.f0≤d <;> simp [h1,h2,h3]
theorem Xo (l:List dO) (y:dO):(!(l++[y]).isEmpty) = true:=by cases l <;> rfl
theorem agJ (l:List dO) (y:dO):kg (l++[y]) = if (!l.isEmpty) = true then oJ (kg l) y else y:=by
 unfold kg
 cases hl:l with
 |nil=>rfl
 |cons a r =>
  obtain ⟨z,e,_⟩:=Xm (l:=a :: r) (by simp)
  rw [KR,e];rfl
theorem OT (s:j3) (x:dO) (layer t u j:Int) (hN:Dy s) (hcu:(s.currents.length:Int) = s.slots*s.layers*(s.nx*s.ny)) (hl0:0≤layer) (hl1:layer < s.layers) (hj0:0≤j) (hj1:j < s.slots):∀ (m:Nat) (c:Int) (k:Nat) (l:List dO),0≤c→c+(m:Int) = s.nx*s.ny→
 aZ.l1 (m+1+k) layer t u (!l.isEmpty) j c s.nx s.ny s.cell s.slot s.slots s.layers s.most s.shores s.currents x.f0.f0 x.f0.f1 x.f1.f0 x.f1.f1 (kg l).f0.f0 (kg l).f0.f1 (kg l).f1.f0 (kg l).f1.f1
  = aZ.l0 k layer t u (!(l++OP s x layer j m c).isEmpty) (j+1) s.nx s.ny s.cell s.slot s.slots s.layers s.most s.shores s.currents x.f0.f0 x.f0.f1 x.f1.f0 x.f1.f1 (kg (l++OP s x layer j m c)).f0.f0 (kg (l++OP s x layer j m c)).f0.f1 (kg (l++OP s x layer j m c)).f1.f0 (kg (l++OP s x layer j m c)).f1.f1
 |0,c,k,l,h0,h=>by
  have n1:=hN.nx;have n2:=hN.ny;have n5:=hN.slots
  obtain ⟨p0,p1⟩:=iF (a:=s.nx) (b:=s.ny) (m:=12) (n:=12) (by omega) (by omega) (by omega) (by omega)
  rw [show 0+1+k = k+1 from by omega,aZ.l1,dY (x:=s.nx*s.ny) (by omega),if_neg (by omega),dY (x:=j+1) (by omega),OP,List.append_nil]
 |m+1,c,k,l,h0,h=>by
  have n1:=hN.nx;have n2:=hN.ny;have n5:=hN.slots;have n6:=hN.layers
  obtain ⟨p0,p1⟩:=iF (a:=s.nx) (b:=s.ny) (m:=12) (n:=12) (by omega) (by omega) (by omega) (by omega)
  obtain ⟨i0,i1⟩:=Ze (q:=j) (l:=layer) (k:=s.nx*s.ny) (c:=c) (ll:=s.slots) (kk:=s.layers) hj0 hj1 hl0 hl1 h0 (by omega)
  obtain ⟨a0,a1⟩:=iF (a:=j) (b:=s.layers) (m:=16) (n:=3) (by omega) (by omega) (by omega) (by omega)
  obtain ⟨b0,b1⟩:=iF (a:=j*s.layers+layer) (b:=s.nx) (m:=51) (n:=12) (by omega) (by omega) (by omega) (by omega)
  obtain ⟨d0,d1⟩:=iF (a:=(j*s.layers+layer)*s.nx) (b:=s.ny) (m:=612) (n:=12) (by omega) (by omega) (by omega) (by omega)
  have hidx:wrap64 (wrap64 (wrap64 (wrap64 (wrap64 (j*s.layers)+layer)*s.nx)*s.ny)+c) = (j*s.layers+layer)*(s.nx*s.ny)+c:=by
   rw [dY (x:=j*s.layers) (by omega),dY (x:=j*s.layers+layer) (by omega),dY (x:=(j*s.layers+layer)*s.nx) (by omega),dY (x:=(j*s.layers+layer)*s.nx*s.ny) (by omega),Int.mul_assoc (j*s.layers+layer) s.nx s.ny]
   rw [Int.mul_assoc] at d0 d1
   exact dY (by omega)
  rw [show m+1+1+k = (m+1+k)+1 from by omega,aZ.l1,dY (x:=s.nx*s.ny) (by omega),if_pos (by omega),aj2 s hN c h0 (by omega),Option.bind_some,Pz,Option.bind_some,hidx,dY (x:=c+1) (by omega)]
  have et:((decide (x.f0.f0≤(c % s.nx+1)*s.cell) && decide (c % s.nx*s.cell≤x.f0.f1)) && (decide (x.f1.f0≤(c / s.nx+1)*s.cell) && decide (c / s.nx*s.cell≤x.f1.f1))) = KQ s x c:=rfl
  rw [et,OP]
  by_cases ht:KQ s x c = true
  ·rw [if_pos ht,if_pos ht,if_pos i0,if_pos (by omega),← List.append_assoc]
   have ih:=OT s x layer t u j hN hcu hl0 hl1 hj0 hj1 m (c+1) k (l++[Aa s layer j c]) (by omega) (by omega)
   rw [← ih,Xo,agJ]
   by_cases he:(!l.isEmpty) = true
   ·rw [if_pos he,if_pos he]
    unfold dC.f
    rw [Option.bind_some,Option.bind_some,Gz,Cq,Gz,Cq]
    rfl
   ·rw [if_neg he,if_neg he]
    rfl
  ·rw [if_neg ht,if_neg ht,List.nil_append]
   exact OT s x layer t u j hN hcu hl0 hl1 hj0 hj1 m (c+1) k l (by omega) (by omega)
theorem Ur (s:j3) (x:dO) (layer t u:Int) (hN:Dy s) (hcu:(s.currents.length:Int) = s.slots*s.layers*(s.nx*s.ny)) (hl0:0≤layer) (hl1:layer < s.layers):∀ (q:Nat) (j:Int) (k:Nat) (l:List dO),0≤j→j+(q:Int) = s.slots→q*147+1≤k→
 aZ.l0 k layer t u (!l.isEmpty) j s.nx s.ny s.cell s.slot s.slots s.layers s.most s.shores s.currents x.f0.f0 x.f0.f1 x.f1.f0 x.f1.f1 (kg l).f0.f0 (kg l).f0.f1 (kg l).f1.f0 (kg l).f1.f1
  = some ((kg (l++OQ s x layer t u q j)).f0.f0,(kg (l++OQ s x layer t u q j)).f0.f1,(kg (l++OQ s x layer t u q j)).f1.f0,(kg (l++OQ s x layer t u q j)).f1.f1)
 |0,j,k+1,l,h0,h,hk=>by
  rw [aZ.l0,if_neg (by omega),OQ,List.append_nil]
 |q+1,j,k+1,l,h0,h,hk=>by
  obtain ⟨k,rfl⟩:∃ z,k = z+1:=⟨k - 1,by omega⟩
  have n1:=hN.nx;have n2:=hN.ny;have n5:=hN.slots;have n4:=hN.slot
  obtain ⟨p0,p1⟩:=iF (a:=s.nx) (b:=s.ny) (m:=12) (n:=12) (by omega) (by omega) (by omega) (by omega)
  obtain ⟨a0,a1⟩:=iF (a:=j) (b:=s.slot) (m:=16) (n:=1048576) (by omega) (by omega) (by omega) (by omega)
  obtain ⟨b0,b1⟩:=iF (a:=j+1) (b:=s.slot) (m:=17) (n:=1048576) (by omega) (by omega) (by omega) (by omega)
  rw [aZ.l0,if_pos (by omega),dY (x:=j*s.slot) (by omega),dY (x:=j+1) (by omega),dY (x:=(j+1)*s.slot) (by omega),OQ]
  have ih:=fun k l=>Ur s x layer t u hN hcu hl0 hl1 q (j+1) k l (by omega) (by omega)
  by_cases h1:j*s.slot ≥ u
  ·rw [if_pos h1,if_pos (Or.inl h1),aZ.j1,if_pos rfl,dY (x:=j+1) (by omega),List.nil_append]
   exact ih k l (by omega)
  ·rw [if_neg h1]
   by_cases h2:(j+1)*s.slot≤t
   ·rw [decide_eq_true h2,if_pos (Or.inr h2),aZ.j1,if_pos rfl,dY (x:=j+1) (by omega),List.nil_append]
    exact ih k l (by omega)
   ·rw [decide_eq_false h2,if_neg (by omega),aZ.j1,if_neg (by decide),← List.append_assoc]
    obtain ⟨k2,e⟩:∃ z,k = (s.nx*s.ny).toNat+1+z:=⟨k - (s.nx*s.ny).toNat - 1,by omega⟩
    rw [e,OT s x layer t u j hN hcu hl0 hl1 h0 (by omega) (s.nx*s.ny).toNat 0 k2 l (Int.le_refl _) (by omega)]
    exact ih k2 _ (by omega)
end Go.Proofs.Ytmhaiihjfgfaoaa.Gl
end
section
namespace Go.Proofs.Ytmhaiihjfgfaoaa.Pr
open Go.RowKit Go.Proofs.YtmhaiihjfgfaoaaW.PrintWords Go.Proofs.YtmhaiihjfgfaoaaW.PrintLast Go.Proofs.YtmhaiihjfgfaoaaW.PrintMore
attribute [local go_sem] eD eF fD fE eG
set_option linter.unusedVariables false
set_option linter.unusedSimpArgs false
end Go.Proofs.Ytmhaiihjfgfaoaa.Pr
end
section
namespace Go.Proofs.Ytmhaiihjfgfaoaa.Gl
open Go.RowKit Go.Proofs.YtmhaiihjfgfaoaaW.PrintWords Go.Proofs.YtmhaiihjfgfaoaaW.PrintLast Go.Proofs.YtmhaiihjfgfaoaaW.PrintMore Go.Proofs.Ytmhaiihjfgfaoaa.Pr
end Go.Proofs.Ytmhaiihjfgfaoaa.Gl
end
section
namespace Go.Proofs.Ytmhaiihjfgfaoaa.Pr
open Go.RowKit Go.Proofs.YtmhaiihjfgfaoaaW.PrintWords Go.Proofs.YtmhaiihjfgfaoaaW.PrintLast Go.Proofs.YtmhaiihjfgfaoaaW.PrintMore
attribute [local go_sem] eD eF fD fE eG
set_option linter.unusedVariables false
set_option linter.unusedSimpArgs false
end Go.Proofs.Ytmhaiihjfgfaoaa.Pr
end
