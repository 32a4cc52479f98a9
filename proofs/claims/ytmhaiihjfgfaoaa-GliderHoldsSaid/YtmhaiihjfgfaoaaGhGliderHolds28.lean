import Derived.SizedLaws
import Derived.ChangeSlices
import Derived.Deep.Slices
import Derived.ChangeArms
import Derived.DataReads
import Derived.WideShapes
import Derived.Test.YtmhaiihjfgfaoaaGhGliderHolds3
import Derived.Test.YtmhaiihjfgfaoaaGhGliderHolds15
import Derived.Test.YtmhaiihjfgfaoaaGhGliderHolds6
import Derived.Test.YtmhaiihjfgfaoaaGhGliderHolds25
import Derived.Test.YtmhaiihjfgfaoaaGhGliderHolds14
import Derived.Test.YtmhaiihjfgfaoaaGhGliderHolds4
import Derived.Test.YtmhaiihjfgfaoaaGhGliderHolds5
import Derived.Test.YtmhaiihjfgfaoaaGhGliderHolds17
import Derived.Test.YtmhaiihjfgfaoaaGhGliderHolds20
section
namespace Go.Proofs.YtmhaiihjfgfaoaaW.PrintWords
open Go.ChangeShapes Go.WideShapes
end Go.Proofs.YtmhaiihjfgfaoaaW.PrintWords
end
section
namespace Go.Proofs.YtmhaiihjfgfaoaaW.gZ
open Go.RowKit Go.Proofs.YtmhaiihjfgfaoaaW.PrintWords Go.Deep Go.ChangeShapes Go.WideShapes
set_option linter.unusedVariables false
section
variable {H:Type} {enc:TypeId × Value→H} {P:Program}
def gZ {α:Type} (enc:TypeId × Value→H) (P:Program) (t:TypeId) (K:Kd α) (G:α→Prop):Prop :=
 ∀ (w:World) (fuel:Nat) (cs:List Value) (x:DataW H × List MemPlace),DataW.trod enc P w 0 (fun _=>true) true fuel t cs = some x→(DataW.weights P t x.1).all (·≤reachBytes) = true→∃ y,K.K w y cs∧G y
theorem gZ.int {t:TypeId} {k:IntKind} (hu:P.underlying t = some (.int k)):gZ enc P t (Kd.int k) (fun n=>(Lit.int k n).wf = true):=by
 intro w fuel cs x h _
 cases fuel with
 |zero=>simp [DataW.trod] at h
 |succ n =>
  unfold DataW.trod at h
  rw [hu] at h
  split at h <;> simp_all
  obtain ⟨⟨rfl,hw⟩,_⟩:=h
  rename_i n _ _
  exact ⟨_,rfl,hw⟩
theorem gZ.bool {t:TypeId} (hu:P.underlying t = some .bool):gZ enc P t Kd.bool (fun _=>True):=by
 intro w fuel cs x h _
 cases fuel with
 |zero=>simp [DataW.trod] at h
 |succ n =>
  unfold DataW.trod at h
  rw [hu] at h
  split at h <;> simp_all
  rename_i b _
  cases b
  ·exact .inl rfl
  ·exact .inr rfl
def jy {α:Type} (enc:TypeId × Value→H) (P:Program) (off:Nat) (fs:List Field) (K:Kd α) (G:α→Prop):Prop :=
 ∀ (w:World) (fuel:Nat) (cs:List Value) (xs:List (DataW H × List MemPlace)),cs.length = off+K.sz→xs.length = fs.length→
  (∀ (i:Nat) (f:Field),fs[i]? = some f→DataW.trod enc P w 0 (fun _=>true) true fuel f.type ((cs.drop f.offset).take (P.cellsOf f.type)) = xs[i]?)→
  (DataW.weightsEach P (fs.map (·.type)) (xs.map (·.1))).all (·≤reachBytes) = true→∃ y,K.K w y (cs.drop off)∧G y
theorem jy.one {α:Type} {off:Nat} {f:Field} {K:Kd α} {G:α→Prop} (hoff:f.offset = off) (hsz:P.cellsOf f.type = K.sz) (h:gZ enc P f.type K G):jy enc P off [f] K G:=by
 intro w fuel cs xs hl hx hi hw
 obtain ⟨x,rfl⟩:∃ x,xs = [x]:=by
  match xs,hx with
  |[x],_=>exact ⟨x,rfl⟩
 have h1:=hi 0 f rfl
 rw [hoff,hsz,List.take_of_length_le (by simp;omega)] at h1
 exact h w fuel _ x h1 (by simpa [DataW.weightsEach] using hw)
theorem jy.cons {α β:Type} {off:Nat} {f:Field} {fs:List Field} {K:Kd α} {G:α→Prop} {K':Kd β} {G':β→Prop} (hoff:f.offset = off) (hsz:P.cellsOf f.type = K.sz) (h:gZ enc P f.type K G) (h':jy enc P (off+K.sz) fs K' G'):
 jy enc P off (f :: fs) (Kd.pair K K') (fun y=>G y.1∧G' y.2):=by
 intro w fuel cs xs hl hx hi hw
 obtain ⟨x,xs',rfl⟩:∃ x xs',xs = x :: xs':=by
  match xs,hx with
  |x :: xs',_=>exact ⟨x,xs',rfl⟩
 have hl2:cs.length = off+(K.sz+K'.sz):=hl
 have h1:=hi 0 f rfl
 rw [hoff,hsz] at h1
 simp only [List.map_cons,DataW.weightsEach,List.all_append,Bool.and_eq_true] at hw
 obtain ⟨y,hy,gy⟩:=h w fuel _ x h1 hw.1
 obtain ⟨y',hy',gy'⟩:=h' w fuel cs xs' (by omega) (by simpa using hx) (fun i g hg=>by simpa using hi (i+1) g (by simpa using hg)) hw.2
 refine ⟨(y,y'),⟨_,_,?_,hy,hy'⟩,gy,gy'⟩
 rw [← List.drop_drop,List.take_append_drop]
theorem gZ.struct {α β:Type} {t:TypeId} {fs:Array Field} {K:Kd α} {G:α→Prop} {f:β→α} (g:α→β) (hu:P.underlying t = some (.struct fs)) (hsz:P.cellsOf t = K.sz) (hg:∀ y,f (g y) = y) (h:jy enc P 0 fs.toList K G):
 gZ enc P t (Kd.iso K f) (fun z=>G (f z)):=by
 intro w fuel cs x hx hw
 obtain ⟨xs,n,rfl,rfl,hl,hxl,hi⟩:=DataW.trod_struct hu hx
 obtain ⟨y,hy,gy⟩:=h w n cs xs (by omega) (by simpa using hxl) (fun i f hf=>hi i f (by simpa using hf)) (by simpa [DataW.weights,hu] using hw)
 refine ⟨g y,?_,by show G (f (g y));rw [hg];exact gy⟩
 show K.K w (f (g y)) cs
 rw [hg]
 simpa using hy
def zL {α:Type} (enc:TypeId × Value→H) (P:Program) (e:TypeId) (i n:Nat) (K:Kd α) (G:α→Prop):Prop :=
 ∀ (w:World) (fuel:Nat) (cs:List Value) (xs:List (DataW H × List MemPlace)),cs.length = i*P.cellsOf e+K.sz→xs.length = n→
  (∀ (j:Nat),j < n→DataW.trod enc P w 0 (fun _=>true) true fuel e ((cs.drop ((i+j)*P.cellsOf e)).take (P.cellsOf e)) = xs[j]?)→
  (DataW.weightsAll P e (xs.map (·.1))).all (·≤reachBytes) = true→∃ y,K.K w y (cs.drop (i*P.cellsOf e))∧G y
theorem zL.one {α:Type} {e:TypeId} {i:Nat} {K:Kd α} {G:α→Prop} (hsz:P.cellsOf e = K.sz) (h:gZ enc P e K G):zL enc P e i 1 K G:=by
 intro w fuel cs xs hl hx hi hw
 obtain ⟨x,rfl⟩:∃ x,xs = [x]:=by
  match xs,hx with
  |[x],_=>exact ⟨x,rfl⟩
 have h1:=hi 0 (by omega)
 rw [Nat.add_zero,List.take_of_length_le (by simp;omega)] at h1
 exact h w fuel _ x h1 (by simpa [DataW.weightsAll] using hw)
theorem zL.cons {α β:Type} {e:TypeId} {i n:Nat} {K:Kd α} {G:α→Prop} {K':Kd β} {G':β→Prop} (hsz:P.cellsOf e = K.sz) (h:gZ enc P e K G) (h':zL enc P e (i+1) n K' G'):
 zL enc P e i (n+1) (Kd.pair K K') (fun y=>G y.1∧G' y.2):=by
 intro w fuel cs xs hl hx hi hw
 obtain ⟨x,xs',rfl⟩:∃ x xs',xs = x :: xs':=by
  match xs,hx with
  |x :: xs',_=>exact ⟨x,xs',rfl⟩
 have hl2:cs.length = i*P.cellsOf e+(K.sz+K'.sz):=hl
 have h1:=hi 0 (by omega)
 rw [Nat.add_zero] at h1
 simp only [List.map_cons,DataW.weightsAll,List.all_append,Bool.and_eq_true] at hw
 obtain ⟨y,hy,gy⟩:=h w fuel _ x h1 hw.1
 have e1:(i+1)*P.cellsOf e = i*P.cellsOf e+P.cellsOf e:=by rw [Nat.add_mul,Nat.one_mul]
 obtain ⟨y',hy',gy'⟩:=h' w fuel cs xs' (by omega) (by simpa using hx) (fun j hj=>by
  have:=hi (j+1) (by omega)
  rw [show i+(j+1) = i+1+j from by omega] at this
  simpa using this) hw.2
 refine ⟨(y,y'),⟨_,_,?_,hy,hy'⟩,gy,gy'⟩
 rw [e1,← List.drop_drop,List.take_append_drop]
theorem gZ.array {α β:Type} {t e:TypeId} {n:Nat} {K:Kd α} {G:α→Prop} {f:β→α} (g:α→β) (hu:P.underlying t = some (.array n e)) (hsz:P.cellsOf t = K.sz) (hg:∀ y,f (g y) = y) (h:zL enc P e 0 n K G):
 gZ enc P t (Kd.iso K f) (fun z=>G (f z)):=by
 intro w fuel cs x hx hw
 cases fuel with
 |zero=>simp [DataW.trod] at hx
 |succ m =>
  unfold DataW.trod at hx
  rw [hu] at hx
  dsimp only at hx
  split at hx
  ·rename_i hl
   rw [Option.map_eq_some_iff] at hx
   obtain ⟨xs,hm,rfl⟩:=hx
   obtain ⟨y,hy,gy⟩:=h w m cs xs (by omega) (by simpa using mapM_some_length hm) (fun j hj=>by
    have:=mapM_some_get hm j j (by simp [hj])
    simpa using this) (by simpa [DataW.weights,hu] using hw)
   refine ⟨g y,?_,by show G (f (g y));rw [hg];exact gy⟩
   show K.K w (f (g y)) cs
   rw [hg]
   simpa using hy
  ·cases hx
theorem Py {α:Type} {Q:Nat→α→Prop}:∀ (n:Nat),(∀ i,i < n→∃ y,Q i y)→∃ ys:List α,ys.length = n∧∀ i y,ys[i]? = some y→Q i y
 |0,_=>⟨[],rfl,fun i y h=>by simp at h⟩
 |n+1,h=>by
  obtain ⟨ys,hl,hq⟩:=Py n (fun i hi=>h i (by omega))
  obtain ⟨y,hy⟩:=h n (by omega)
  refine ⟨ys++[y],by simp [hl],fun i z hz=>?_⟩
  rw [List.getElem?_append] at hz
  split at hz
  ·exact hq i z hz
  ·rename_i hi
   obtain rfl:i = n:=by
    have:=(List.getElem?_eq_some_iff.1 hz).1
    simp at this
    omega
   simp [hl] at hz
   exact hz ▸ hy
theorem DL {e:TypeId}:∀ {ds:List (DataW H)} {d:DataW H},(DataW.weightsAll P e ds).all (·≤reachBytes) = true→d ∈ ds→(DataW.weights P e d).all (·≤reachBytes) = true
 |[],_,_,h=>by cases h
 |a :: r,d,hw,h=>by
  simp only [DataW.weightsAll,List.all_append,Bool.and_eq_true] at hw
  rcases List.mem_cons.1 h with rfl|h
  ·exact hw.1
  ·exact DL hw.2 h
theorem gZ.slice {α:Type} {t e:TypeId} (e':Nat) {K:Kd α} {G:α→Prop} (hu:P.underlying t = some (.slice e)) (hsz:P.cellsOf e = K.sz) (h:gZ enc P e K G):
 gZ enc P t (Kd.slice e' K) (fun ys=>(∀ y ∈ ys,G y)∧ys.length*P.bytesOf e≤reachBytes):=by
 intro w fuel cs x hx hw
 rcases open_slice hu hx with ⟨rfl,rfl⟩|⟨a,len,cap,m,n,D,Pl,rfl,hb,hl,hm,hmm,rfl,hi⟩
 ·exact ⟨[],⟨none,0,rfl,by simp,⟨rfl,by simp,fun h=>by simp at h⟩⟩,by simp,by simp⟩
 ·have hmc:m = cap:=by simpa using hmm
  subst hmc
  simp only [DataW.weights,hu,List.all_cons,List.all_append,Bool.and_eq_true,decide_eq_true_eq,List.length_map,List.length_range] at hw
  obtain ⟨ys,hyl,hys⟩:=Py (Q:=fun i y=>(∃ cs',w.cells? 0 (a.add (i*P.cellsOf e)) (P.cellsOf e) = some cs'∧K.K w y cs')∧G y) len (fun i hil=>by
   obtain ⟨cs',hc,ht⟩:=hi i (by omega)
   obtain ⟨y,hy,gy⟩:=h w n cs' _ ht (DL hw.2.1 (List.mem_map.2 ⟨i,List.mem_range.2 hil,rfl⟩))
   exact ⟨y,⟨cs',hc,hy⟩,gy⟩)
  refine ⟨ys,⟨some a,m,by rw [hyl],by omega,hyl.trans hyl.symm |>.trans (by rfl),?_,fun _=>⟨a,rfl,fun j p hj=>?_⟩⟩,fun y hy=>?_,?_⟩
  ·unfold maxLen at hm
   omega
  ·obtain ⟨⟨cs',hc,hk⟩,_⟩:=hys j p hj
   obtain ⟨_,hcl,hcell⟩:=World.cells?_some hc
   refine ⟨cs',by rw [hcl,hsz],hk,fun i u hu'=>?_⟩
   have hlt:=(List.getElem?_eq_some_iff.1 hu').1
   rw [← Go.Deep.add_add,← hsz,hcell i (by omega),hu']
  ·obtain ⟨j,hj⟩:=List.getElem?_of_mem hy
   exact (hys j y hj).2
  ·refine Nat.le_trans (Nat.mul_le_mul_right _ (show ys.length≤len+(m - len) by omega)) hw.1
theorem gZ.arg {α:Type} {t:TypeId} {K:Kd α} {G:α→Prop} (h:gZ enc P t K G) {w:World} {v:Value} {d:DataW H} {p:List MemPlace} (ht:DataW.Trod enc P w 0 (fun _=>true) true t v d p)
 {ts:List TypeId} {ds:List (DataW H)} (hsz:(DataW.weightsEach P ts ds).all (·≤reachBytes) = true) {j:Nat} (hj:ts[j]? = some t) (hd:ds[j]? = some d):∃ y,K.K w y v.cells.toList∧G y:=by
 obtain ⟨fuel,hf⟩:=ht
 exact h w fuel _ _ hf (List.all_eq_true.2 fun n hn=>List.all_eq_true.1 hsz _ (DataW.weights_mem_each hj hd n hn))
end
end Go.Proofs.YtmhaiihjfgfaoaaW.gZ
end
section
namespace Go.Proofs.Ytmhaiihjfgfaoaa.Good
open Go.RowKit Go.Proofs.YtmhaiihjfgfaoaaW.PrintWords Go.Proofs.YtmhaiihjfgfaoaaW.PrintLast Go.Proofs.YtmhaiihjfgfaoaaW.PrintMore Go.Proofs.Ytmhaiihjfgfaoaa.Pr Go.Proofs.YtmhaiihjfgfaoaaW.gZ
set_option linter.unusedVariables false
def W27 (x:nD):Prop:=(Lit.int .i64 x.f0).wf = true∧(Lit.int .i64 x.f1).wf = true
theorem Gh {H:Type} {enc:TypeId × Value→H}:gZ enc Try.prog 27 k27 W27:=gZ.struct (fun p=>⟨p.1,p.2⟩) Try.underlying27 aR (fun _=>rfl) (jy.cons rfl aR (gZ.int Try.underlying2) (jy.one rfl aR (gZ.int Try.underlying2)))
def W40 (x:nU):Prop:=W27 x.f0∧W27 x.f1
theorem ajZ {H:Type} {enc:TypeId × Value→H}:gZ enc Try.prog 40 CY W40:=gZ.struct (fun p=>⟨p.1,p.2⟩) Try.underlying40 aR (fun _=>rfl) (jy.cons rfl aR Gh (jy.one rfl aR Gh))
def W25 (x:S25):Prop:=(Lit.int .i64 x.f0).wf = true∧(Lit.int .i64 x.f1).wf = true∧(Lit.int .i64 x.f2).wf = true∧(Lit.int .i64 x.f3).wf = true∧(Lit.int .i64 x.f4).wf = true∧(Lit.int .i64 x.f5).wf = true∧(Lit.int .i64 x.f6).wf = true∧((∀ y ∈ x.f7,True)∧x.f7.length*Try.prog.bytesOf 4≤reachBytes)∧((∀ y ∈ x.f8,W40 y)∧x.f8.length*Try.prog.bytesOf 40≤reachBytes)
theorem aj0 {H:Type} {enc:TypeId × Value→H}:gZ enc Try.prog 25 k25 W25:=gZ.struct (fun p=>⟨p.1,p.2.1,p.2.2.1,p.2.2.2.1,p.2.2.2.2.1,p.2.2.2.2.2.1,p.2.2.2.2.2.2.1,p.2.2.2.2.2.2.2.1,p.2.2.2.2.2.2.2.2⟩) Try.underlying25 aR (fun _=>rfl) (jy.cons rfl aR (gZ.int Try.underlying3) (jy.cons rfl aR (gZ.int Try.underlying3) (jy.cons rfl aR (gZ.int Try.underlying2) (jy.cons rfl aR (gZ.int Try.underlying2) (jy.cons rfl aR (gZ.int Try.underlying3) (jy.cons rfl aR (gZ.int Try.underlying3) (jy.cons rfl aR (gZ.int Try.underlying2) (jy.cons rfl aR (gZ.slice 4 Try.underlying22 aR (gZ.bool Try.underlying4)) (jy.one rfl aR (gZ.slice 40 Try.underlying23 aR ajZ))))))))))
def W29 (x:S29):Prop:=(Lit.int .i64 x.f0).wf = true∧(Lit.int .i64 x.f1).wf = true∧W27 x.f2∧W27 x.f3∧(Lit.int .i64 x.f4).wf = true
theorem aj1 {H:Type} {enc:TypeId × Value→H}:gZ enc Try.prog 29 k29 W29:=gZ.struct (fun p=>⟨p.1,p.2.1,p.2.2.1,p.2.2.2.1,p.2.2.2.2⟩) Try.underlying29 aR (fun _=>rfl) (jy.cons rfl aR (gZ.int Try.underlying2) (jy.cons rfl aR (gZ.int Try.underlying2) (jy.cons rfl aR Gh (jy.cons rfl aR Gh (jy.one rfl aR (gZ.int Try.underlying2))))))
def W31 (x:gz):Prop:=W27 x.f0∧W27 x.f1
theorem aj2 {H:Type} {enc:TypeId × Value→H}:gZ enc Try.prog 31 PN W31:=gZ.struct (fun p=>⟨p.1,p.2⟩) Try.underlying31 aR (fun _=>rfl) (jy.cons rfl aR Gh (jy.one rfl aR Gh))
def W33 (x:vY):Prop:=(Lit.int .i64 x.f0).wf = true∧(Lit.int .i64 x.f1).wf = true
theorem aj3 {H:Type} {enc:TypeId × Value→H}:gZ enc Try.prog 33 Yv W33:=gZ.struct (fun p=>⟨p.1,p.2⟩) Try.underlying33 aR (fun _=>rfl) (jy.cons rfl aR (gZ.int Try.underlying3) (jy.one rfl aR (gZ.int Try.underlying3)))
structure G56 where
 f0:Int
 f1:Int
def anQ:Kd G56:=Kd.iso (Kd.pair (Kd.int .u16) (Kd.int .u16)) (fun x:G56=>(x.f0,x.f1))
def W56 (x:G56):Prop:=(Lit.int .u16 x.f0).wf = true∧(Lit.int .u16 x.f1).wf = true
theorem aj4 {H:Type} {enc:TypeId × Value→H}:gZ enc Try.prog 56 anQ W56:=gZ.array (fun p=>⟨p.1,p.2⟩) Try.underlying56 aR (fun _=>rfl) (zL.cons aR (gZ.int Try.underlying55) (zL.one aR (gZ.int Try.underlying55)))
theorem acz {w:World} {x:G56} {cs:List Value} (h:anQ.K w x cs):cs = [.int .u16 x.f0,.int .u16 x.f1]:=by
 obtain ⟨_,_,rfl,rfl,rfl⟩:=h
 exact rfl
end Go.Proofs.Ytmhaiihjfgfaoaa.Good
end
section
namespace Go.Proofs.Ytmhaiihjfgfaoaa.Gl
open Go.RowKit Go.Proofs.YtmhaiihjfgfaoaaW.PrintWords Go.Proofs.YtmhaiihjfgfaoaaW.PrintLast Go.Proofs.YtmhaiihjfgfaoaaW.PrintMore Go.Proofs.Ytmhaiihjfgfaoaa.Pr
set_option linter.unusedVariables false
def oI (a b:gz):Prop:=b.f0.f0≤a.f0.f0∧a.f0.f1≤b.f0.f1∧b.f1.f0≤a.f1.f0∧a.f1.f1≤b.f1.f1
theorem oI.rfl' (a:gz):oI a a:=⟨Int.le_refl _,Int.le_refl _,Int.le_refl _,Int.le_refl _⟩
theorem oI.trans {a b c:gz} (h:oI a b) (k:oI b c):oI a c:=by unfold oI at*;omega
theorem oI.antisymm {a b:gz} (h:oI a b) (k:oI b a):a = b:=by
 obtain ⟨⟨a0,a1⟩,⟨a2,a3⟩⟩:=a
 obtain ⟨⟨b0,b1⟩,⟨b2,b3⟩⟩:=b
 unfold oI at*
 dsimp only at h k
 have e0:a0 = b0:=by omega
 have e1:a1 = b1:=by omega
 have e2:a2 = b2:=by omega
 have e3:a3 = b3:=by omega
 rw [e0,e1,e2,e3]
theorem VP {a b:gz}:oI a (vW a b)∧oI b (vW a b):=by
 unfold oI vW
 dsimp only
 omega
theorem acA {a b c:gz} (h:oI a c) (k:oI b c):oI (vW a b) c:=by
 unfold oI vW at*
 dsimp only
 omega
theorem QX:∀ (l:List gz) (z:gz),∃ y,l.foldl Uu (some z) = some y∧(oI z y∧∀ a ∈ l,oI a y)∧∀ b,oI z b→(∀ a ∈ l,oI a b)→oI y b
 |[],z=>⟨z,rfl,⟨oI.rfl' z,fun a h=>by cases h⟩,fun b h _=>h⟩
 |x :: l,z=>by
  obtain ⟨y,h,⟨h1,h2⟩,h3⟩:=QX l (vW z x)
  refine ⟨y,h,⟨VP.1.trans h1,fun a ha=>?_⟩,fun b hb hl=>h3 b (acA hb (hl x (List.mem_cons_self ..))) fun a ha=>hl a (List.mem_cons_of_mem _ ha)⟩
  rcases List.mem_cons.1 ha with rfl|ha
  ·exact VP.2.trans h1
  ·exact h2 a ha
theorem Ko {l:List gz} (h:l≠[]):∃ y,qw l = some y∧(∀ a ∈ l,oI a y)∧∀ b,(∀ a ∈ l,oI a b)→oI y b:=by
 cases l with
 |nil=>exact absurd rfl h
 |cons x l =>
  obtain ⟨y,h,⟨h1,h2⟩,h3⟩:=QX l x
  refine ⟨y,h,fun a ha=>?_,fun b hl=>h3 b (hl x (List.mem_cons_self ..)) fun a ha=>hl a (List.mem_cons_of_mem _ ha)⟩
  rcases List.mem_cons.1 ha with rfl|ha
  ·exact h1
  ·exact h2 a ha
theorem QY {l l':List gz} (h:l≠[]) (hs:∀ a ∈ l,∃ b ∈ l',oI a b):oI (jT l) (jT l'):=by
 obtain ⟨y,e,h1,h2⟩:=Ko h
 have h':l'≠[]:=by
  intro e'
  cases l with
  |nil=>exact h rfl
  |cons x l =>
   obtain ⟨b,hb,_⟩:=hs x (List.mem_cons_self ..)
   rw [e'] at hb;cases hb
 obtain ⟨y',e',h1',h2'⟩:=Ko h'
 unfold jT
 rw [e,e']
 exact h2 y' fun a ha=>by
  obtain ⟨b,hb,hs⟩:=hs a ha
  exact hs.trans (h1' b hb)
theorem ae4 {nx i0 k0 c:Int} {n m:Nat}:c ∈ allT nx i0 n k0 m↔∃ r:Nat,r < m∧∃ j:Nat,j < n∧c = (k0+(r:Int))*nx+(i0+(j:Int)):=by
 unfold allT acB
 simp only [List.mem_flatMap,List.mem_range,List.mem_map]
 constructor
 ·rintro ⟨r,hr,j,hj,rfl⟩
  exact ⟨r,hr,j,hj,rfl⟩
 ·rintro ⟨r,hr,j,hj,rfl⟩
  exact ⟨r,hr,j,hj,rfl⟩
theorem acC {nx a b c d k:Int}:k ∈ allT nx a (b+1 - a).toNat c (d+1 - c).toNat↔∃ r i:Int,(c≤r∧r≤d)∧(a≤i∧i≤b)∧k = r*nx+i:=by
 rw [ae4]
 constructor
 ·rintro ⟨r,hr,j,hj,rfl⟩
  exact ⟨c+r,a+j,by omega,by omega,rfl⟩
 ·rintro ⟨r,i,hr,hi,rfl⟩
  exact ⟨(r - c).toNat,by omega,(i - a).toNat,by omega,by rw [show c+((r - c).toNat:Int) = r from by omega,show a+((i - a).toNat:Int) = i from by omega]⟩
theorem LA {s:lF} {x:gz} {k:Int}:k ∈ nW s x↔∃ r i:Int,((pX s.cell x.f1 s.ny).1≤r∧r≤(pX s.cell x.f1 s.ny).2)∧((pX s.cell x.f0 s.nx).1≤i∧i≤(pX s.cell x.f0 s.nx).2)∧k = r*s.nx+i:=acC
theorem VQ (c x:Int):uQ c x≤x / c∧x / c - 1≤uQ c x:=by unfold uQ;split <;> omega
theorem VR {c most:Int} {a:nD} (hc:0 < c) (h:a.f0≤a.f1):(pX c a most).1≤(pX c a most).2:=by
 have:=(VQ c a.f0).1
 have:=Int.ediv_le_ediv hc h
 unfold pX
 dsimp only
 omega
theorem XB {s:lF} {x:gz} (hc:0 < s.cell) (h0:x.f0.f0≤x.f0.f1) (h1:x.f1.f0≤x.f1.f1):∃ k,k ∈ nW s x:=by
 have a:=VR (c:=s.cell) (most:=s.nx) (a:=x.f0) hc h0
 have b:=VR (c:=s.cell) (most:=s.ny) (a:=x.f1) hc h1
 exact ⟨_,LA.2 ⟨_,_,⟨Int.le_refl _,b⟩,⟨Int.le_refl _,a⟩,rfl⟩⟩
theorem Bd {s:lF} {x:gz} {layer j0:Int} {q:Nat} {y:gz}:y ∈ iP s x layer j0 q↔∃ r:Nat,r < q∧∃ c ∈ nW s x,y = rQ s layer (j0+(r:Int)) c:=by
 unfold iP slotL
 simp only [List.mem_flatMap,List.mem_range,List.mem_map]
 constructor
 ·rintro ⟨r,hr,c,hc,rfl⟩
  exact ⟨r,hr,c,hc,rfl⟩
 ·rintro ⟨r,hr,c,hc,rfl⟩
  exact ⟨r,hr,c,hc,rfl⟩
theorem QZ {t u d:Int} (hd:0 < d) (h:t < u):0 < ((u - 1) / d+1 - t / d).toNat:=by
 have:=Int.ediv_le_ediv (a:=t) (b:=u - 1) hd (by omega)
 omega
theorem VS {s:lF} {v:qO} {x:gz} (hS:xz s) (hV:Br v) (hx:qx x):(dB s v x).f0.f0≤(dB s v x).f0.f1∧(dB s v x).f1.f0≤(dB s v x).f1.f1:=by
 have:=(fI (a:=v.speed+s.most) (b:=v.dive) (m:=10000) (n:=131072) (by have:=hV.speed;have:=hS.most;omega) (by have:=hV.speed;have:=hS.most;omega) (by have:=hV.dive;omega) hV.dive.2).1
 unfold dB
 obtain ⟨_,h0,h1⟩:=hx
 dsimp only
 omega
end Go.Proofs.Ytmhaiihjfgfaoaa.Gl
end
section
namespace Go.Proofs.Ytmhaiihjfgfaoaa.Gl
open Go.RowKit Go.Proofs.YtmhaiihjfgfaoaaW.PrintWords Go.Proofs.YtmhaiihjfgfaoaaW.PrintLast Go.Proofs.YtmhaiihjfgfaoaaW.PrintMore Go.Proofs.Ytmhaiihjfgfaoaa.Pr
set_option linter.unusedVariables false
theorem bX {x:Int} (h:-9223372036854775808≤x∧x < 9223372036854775808):wrap64 x = x:=by unfold wrap64;omega
theorem Q0 (lo hi:Int):bZ.f lo hi = some (PX lo hi):=by
 unfold bZ.f aK.f
 rw [show PX lo hi = (decide (lo≤hi) && (decide (-1073741824≤lo) && decide (lo≤1073741824)) && (decide (-1073741824≤hi) && decide (hi≤1073741824))) from by
  rw [Bool.eq_iff_iff,BJ];simp only [Bool.and_eq_true,decide_eq_true_eq];omega]
 by_cases h1:lo≤hi <;> by_cases h2:-1073741824≤lo <;> by_cases h3:lo≤1073741824 <;> by_cases h4:-1073741824≤hi <;> by_cases h5:hi≤1073741824 <;> simp [h1,h2,h3,h4,h5]
theorem DN (lo hi a b:Int):bI.f lo hi a b = some (vR lo hi a b):=by
 unfold bI.f vR
 rw [Q0,Option.bind_some]
 cases PX lo hi with
 |false=>rfl
 |true =>
  by_cases h:a≤lo <;> simp [h]
theorem XC (x lo hi:Int):aK.f x lo hi = some (lG x lo hi):=by
 unfold aK.f lG
 by_cases h:lo≤x <;> simp [h]
theorem aaH (x:gz):dC.f x.f0.f0 x.f0.f1 x.f1.f0 x.f1.f1 = some (PW x):=by
 unfold dC.f PW
 simp only [Q0,XC,Option.bind_some]
 cases PX x.f0.f0 x.f0.f1 <;> cases PX x.f1.f0 x.f1.f1 <;> cases lG x.f0.f0 (-268435456) 268435456 <;> cases lG x.f0.f1 (-268435456) 268435456 <;> cases lG x.f1.f0 (-268435456) 268435456 <;> cases lG x.f1.f1 (-268435456) 268435456 <;> rfl
theorem aaI (v:qO):cO.f v.speed v.dive v.use.f0 v.use.f1 v.drift.f0 v.drift.f1 v.reserve = some (KV v):=by
 unfold cO.f KV RG lG
 simp only [DN,Option.bind_some]
 by_cases h1:v.speed < 0
 ·rw [if_pos h1,show decide (0≤v.speed) = false from decide_eq_false (by omega)];rfl
 rw [if_neg h1,show decide (0≤v.speed) = true from decide_eq_true (by omega)]
 by_cases h2:v.speed > 5000
 ·rw [if_pos h2,show decide (v.speed≤5000) = false from decide_eq_false (by omega)];rfl
 rw [if_neg h2,show decide (v.speed≤5000) = true from decide_eq_true (by omega)]
 by_cases h3:v.dive < 1
 ·rw [if_pos h3,show decide (1≤v.dive) = false from decide_eq_false (by omega)];rfl
 rw [if_neg h3,show decide (1≤v.dive) = true from decide_eq_true (by omega)]
 by_cases h4:v.dive > 131072
 ·rw [if_pos h4,show decide (v.dive≤131072) = false from decide_eq_false (by omega)];rfl
 rw [if_neg h4,show decide (v.dive≤131072) = true from decide_eq_true (by omega)]
 cases vR v.use.f0 v.use.f1 0 1073741824
 ·rfl
 cases vR v.drift.f0 v.drift.f1 0 1073741824
 ·rfl
 by_cases h5:v.reserve < 0
 ·rw [if_pos h5,show decide (0≤v.reserve) = false from decide_eq_false (by omega)];rfl
 rw [if_neg h5,show decide (0≤v.reserve) = true from decide_eq_true (by omega)]
 by_cases h6:v.reserve > 1073741824
 ·rw [if_pos h6,show decide (v.reserve≤1073741824) = false from decide_eq_false (by omega)];rfl
 rw [if_neg h6,show decide (v.reserve≤1073741824) = true from decide_eq_true (by omega)];rfl
theorem VT (s:lF) (hm:0≤s.most∧s.most≤5000) (hl:s.currents.length≤100000):∀ (m i K:Nat),i+m = s.currents.length→m+1≤K→
 ai.l0 K (i:Int) s.nx s.ny s.cell s.slot s.slots s.layers s.most s.shores s.currents = some (if (s.currents.drop i).any (O1 s.most) then 2 else 0)
 |0,i,K+1,h,hk=>by
  rw [ai.l0,if_neg (by omega),List.drop_eq_nil_of_le (by omega)];rfl
 |m+1,i,K+1,h,hk=>by
  have hi:i < s.currents.length:=by omega
  rw [ai.l0,if_pos (by omega),if_pos (by omega),bX (x:=-s.most) (by omega),bX (x:=(i:Int)+1) (by omega)]
  have e:aH s.currents (i:Int) = s.currents[i]:=by
   unfold aH
   simp [hi]
  rw [e,DN,Option.bind_some,DN,Option.bind_some,List.drop_eq_getElem_cons hi,List.any_cons]
  have ih:=VT s hm hl m (i+1) K (by omega) (by omega)
  rw [show ((i+1:Nat):Int) = (i:Int)+1 from by omega] at ih
  rw [ih,show O1 s.most s.currents[i] = (!vR s.currents[i].f0.f0 s.currents[i].f0.f1 (-s.most) s.most || !vR s.currents[i].f1.f0 s.currents[i].f1.f1 (-s.most) s.most) from rfl]
  cases vR s.currents[i].f0.f0 s.currents[i].f0.f1 (-s.most) s.most
  ·rfl
  cases vR s.currents[i].f1.f0 s.currents[i].f1.f1 (-s.most) s.most
  ·rfl
  rfl
theorem aaJ (s:lF) (K:Nat) (hl:s.currents.length≤100000) (hk:s.currents.length+3≤K):ai.f K s.nx s.ny s.cell s.slot s.slots s.layers s.most s.shores s.currents = some (uk s):=by
 obtain ⟨K,rfl⟩:∃ k,K = k+2:=⟨K - 2,by omega⟩
 have hj:ai.j0 (K+2) true s.nx s.ny s.cell s.slot s.slots s.layers s.most s.shores s.currents = some 2:=by rw [ai.j0,if_pos rfl]
 unfold ai.f uk Mj
 rw [hj]
 unfold lG
 by_cases h1:s.nx < 1
 ·rw [if_pos h1,show decide (1≤s.nx) = false from decide_eq_false (by omega)];rfl
 rw [if_neg h1,show decide (1≤s.nx) = true from decide_eq_true (by omega)]
 by_cases h2:s.nx > 12
 ·rw [if_pos h2,show decide (s.nx≤12) = false from decide_eq_false (by omega)];rfl
 rw [if_neg h2,show decide (s.nx≤12) = true from decide_eq_true (by omega)]
 by_cases h3:s.ny < 1
 ·rw [if_pos h3,show decide (1≤s.ny) = false from decide_eq_false (by omega)];rfl
 rw [if_neg h3,show decide (1≤s.ny) = true from decide_eq_true (by omega)]
 by_cases h4:s.ny > 12
 ·rw [if_pos h4,show decide (s.ny≤12) = false from decide_eq_false (by omega)];rfl
 rw [if_neg h4,show decide (s.ny≤12) = true from decide_eq_true (by omega)]
 by_cases h5:s.cell < 100
 ·rw [if_pos h5,show decide (100≤s.cell) = false from decide_eq_false (by omega)];rfl
 rw [if_neg h5,show decide (100≤s.cell) = true from decide_eq_true (by omega)]
 by_cases h6:s.cell > 65536
 ·rw [if_pos h6,show decide (s.cell≤65536) = false from decide_eq_false (by omega)];rfl
 rw [if_neg h6,show decide (s.cell≤65536) = true from decide_eq_true (by omega)]
 by_cases h7:s.slot < 1
 ·rw [if_pos h7,show decide (1≤s.slot) = false from decide_eq_false (by omega)];rfl
 rw [if_neg h7,show decide (1≤s.slot) = true from decide_eq_true (by omega)]
 by_cases h8:s.slot > 1048576
 ·rw [if_pos h8,show decide (s.slot≤1048576) = false from decide_eq_false (by omega)];rfl
 rw [if_neg h8,show decide (s.slot≤1048576) = true from decide_eq_true (by omega)]
 by_cases h9:s.slots < 1
 ·rw [if_pos h9,show decide (1≤s.slots) = false from decide_eq_false (by omega)];rfl
 rw [if_neg h9,show decide (1≤s.slots) = true from decide_eq_true (by omega)]
 by_cases h10:s.slots > 16
 ·rw [if_pos h10,show decide (s.slots≤16) = false from decide_eq_false (by omega)];rfl
 rw [if_neg h10,show decide (s.slots≤16) = true from decide_eq_true (by omega)]
 by_cases h11:s.layers < 1
 ·rw [if_pos h11,show decide (1≤s.layers) = false from decide_eq_false (by omega)];rfl
 rw [if_neg h11,show decide (1≤s.layers) = true from decide_eq_true (by omega)]
 by_cases h12:s.layers > 3
 ·rw [if_pos h12,show decide (s.layers≤3) = false from decide_eq_false (by omega)];rfl
 rw [if_neg h12,show decide (s.layers≤3) = true from decide_eq_true (by omega)]
 by_cases h13:s.most < 0
 ·rw [if_pos h13,show decide (0≤s.most) = false from decide_eq_false (by omega)];rfl
 rw [if_neg h13,show decide (0≤s.most) = true from decide_eq_true (by omega)]
 by_cases h14:s.most > 5000
 ·rw [show decide (s.most > 5000) = true from decide_eq_true h14,hj,show decide (s.most≤5000) = false from decide_eq_false (by omega)];rfl
 rw [show decide (s.most > 5000) = false from decide_eq_false h14,show decide (s.most≤5000) = true from decide_eq_true (by omega)]
 obtain ⟨n0,n1⟩:=fI (a:=s.nx) (b:=s.ny) (m:=12) (n:=12) (by omega) (by omega) (by omega) (by omega)
 obtain ⟨m0,m1⟩:=fI (a:=s.slots) (b:=s.layers) (m:=16) (n:=3) (by omega) (by omega) (by omega) (by omega)
 obtain ⟨q0,q1⟩:=fI (a:=s.slots*s.layers) (b:=s.nx*s.ny) (m:=48) (n:=144) (by omega) (by omega) (by omega) (by omega)
 obtain ⟨p0,p1⟩:=fI (a:=s.slots*s.layers) (b:=s.nx) (m:=48) (n:=12) (by omega) (by omega) (by omega) (by omega)
 have ea:s.layers*s.slots = s.slots*s.layers:=Int.mul_comm _ _
 have eb:s.slots*s.layers*s.nx*s.ny = s.slots*s.layers*(s.nx*s.ny):=by rw [Int.mul_assoc]
 rw [ai.j0,if_neg (by decide),bX (x:=s.nx*s.ny) (by omega)]
 by_cases h15:(s.shores.length:Int) = s.nx*s.ny
 ·rw [if_pos h15,decide_eq_true h15,ai.j1,bX (x:=s.slots*s.layers) (by omega),bX (x:=s.slots*s.layers*s.nx) (by omega),eb,bX (x:=s.slots*s.layers*(s.nx*s.ny)) (by omega)]
  by_cases h16:(s.currents.length:Int) = s.slots*s.layers*(s.nx*s.ny)
  ·rw [if_neg (by rw [h16];simp),decide_eq_true h16]
   have:=VT s (by omega) hl s.currents.length 0 K (by omega) (by omega)
   rw [show ((0:Nat):Int) = 0 from rfl,List.drop_zero] at this
   rw [this]
   cases s.currents.any (O1 s.most) <;> rfl
  ·rw [if_pos (by simpa using h16),decide_eq_false h16];rfl
 ·rw [if_neg h15,decide_eq_false h15,ai.j1,if_pos rfl];rfl
theorem acD (s:lF):gF.f s.nx s.ny s.cell s.slot s.slots s.layers s.most s.shores s.currents = some (decide ((s.shores.length:Int) > 200) || decide ((s.currents.length:Int) > 3000)):=by
 unfold gF.f
 by_cases h:(s.shores.length:Int) > 200 <;> simp [h]
def aj5 (s:lF) (v:qO) (x:gz) (t:Int):Bool:=!decide ((s.shores.length:Int) > 200) && !decide ((s.currents.length:Int) > 3000) && Mj s && RG v && PW x && decide (0≤t) && decide (t≤1073741824)
theorem aj6 (s:lF) (v:qO) (x:gz) (t:Int) (K:Nat) (hk:3003≤K):jE.f K s.nx s.ny s.cell s.slot s.slots s.layers s.most s.shores s.currents v.speed v.dive v.use.f0 v.use.f1 v.drift.f0 v.drift.f1 v.reserve x.f0.f0 x.f0.f1 x.f1.f0 x.f1.f1 t = some (aj5 s v x t):=by
 unfold jE.f aj5
 rw [acD,Option.bind_some]
 by_cases h1:(s.shores.length:Int) > 200
 ·rw [decide_eq_true h1];rfl
 by_cases h2:(s.currents.length:Int) > 3000
 ·rw [decide_eq_true h2,decide_eq_false h1];rfl
 rw [decide_eq_false h1,decide_eq_false h2,if_neg (by decide),aaJ s K (by omega) (by omega),Option.bind_some,aaI,Option.bind_some,aaH,Option.bind_some]
 unfold uk KV
 cases Mj s
 ·rfl
 cases RG v
 ·rfl
 cases PW x
 ·rfl
 by_cases h3:t ≥ 0
 ·rw [if_pos rfl,if_pos rfl,if_pos rfl,if_pos h3,show decide (0≤t) = true from decide_eq_true h3];rfl
 ·rw [if_pos rfl,if_pos rfl,if_pos rfl,if_neg h3,show decide (0≤t) = false from decide_eq_false h3];rfl
end Go.Proofs.Ytmhaiihjfgfaoaa.Gl
end
section
namespace Go.Proofs.Ytmhaiihjfgfaoaa.Gl
open Go.RowKit Go.Proofs.YtmhaiihjfgfaoaaW.PrintWords Go.Proofs.YtmhaiihjfgfaoaaW.PrintLast Go.Proofs.YtmhaiihjfgfaoaaW.PrintMore Go.Proofs.Ytmhaiihjfgfaoaa.Pr
set_option linter.unusedVariables false
def LB (x:gz) (px py:Int):Prop:=(x.f0.f0*4000000≤px∧px≤x.f0.f1*4000000)∧(x.f1.f0*4000000≤py∧py≤x.f1.f1*4000000)
theorem wf_u16 {x:Int} (h:(Lit.int .u16 x).wf = true):0≤x∧x≤65535:=by
 unfold Lit.wf at h
 simp only [Bool.and_eq_true,decide_eq_true_eq] at h
 exact ⟨h.1,h.2⟩
theorem Oe {a b m:Int} (h0:-1099511627776≤a) (h1:a≤b) (h2:b≤1099511627776) (hm:0≤m∧m≤65535):∃ p,dI.f a b m = some p∧a≤p∧p≤b:=by
 obtain ⟨p0,p1⟩:=fI (a:=b - a) (b:=m) (m:=2199023255552) (n:=65535) (by omega) (by omega) hm.1 hm.2
 have p2:=Int.mul_le_mul_of_nonneg_left hm.2 (show 0≤b - a by omega)
 unfold dI.f
 rw [bX (x:=b - a) (by omega),bX (x:=m) (by omega),bX (x:=(b - a)*m) (by omega),Int.tdiv_eq_ediv_of_nonneg p0]
 generalize (b - a)*m = P at*
 rw [bX (x:=P / 65535) (by omega),bX (x:=a+P / 65535) (by omega)]
 exact ⟨_,rfl,by omega,by omega⟩
theorem aaK {l:List Int} (hl:∀ y ∈ l,(Lit.int .u16 y).wf = true) {i:Int} (h0:0≤i):∃ p,fP.f l i = some p∧0≤p∧p≤65535:=by
 unfold fP.f
 by_cases h:i < (l.length:Int)
 ·have hi:i.toNat < l.length:=by omega
  have e:rd l i = l[i.toNat]:=by
   unfold rd
   simp [hi]
  rw [if_pos h,if_pos h0,e]
  exact ⟨_,rfl,wf_u16 (hl _ (List.getElem_mem hi))⟩
 ·rw [if_neg h]
  exact ⟨0,rfl,by omega,by omega⟩
theorem XD {x:gz} (h0:-1099511627776≤x.f0.f0∧x.f0.f0≤1099511627776) (h1:-1099511627776≤x.f0.f1∧x.f0.f1≤1099511627776) (h2:-1099511627776≤x.f1.f0∧x.f1.f0≤1099511627776) (h3:-1099511627776≤x.f1.f1∧x.f1.f1≤1099511627776) (px py:Int):
 ∃ b,isobathlaw03_holds.f x.f0.f0 x.f0.f1 x.f1.f0 x.f1.f1 px py = some b∧(LB x px py→b = true):=by
 unfold isobathlaw03_holds.f LB
 rw [bX (x:=x.f0.f0*4000000) (by omega),bX (x:=x.f0.f1*4000000) (by omega),bX (x:=x.f1.f0*4000000) (by omega),bX (x:=x.f1.f1*4000000) (by omega)]
 split
 ·split
  ·split
   ·exact ⟨_,rfl,fun h=>decide_eq_true h.2.2⟩
   ·rename_i h;exact ⟨_,rfl,fun q=>absurd q.2.1 h⟩
  ·rename_i h;exact ⟨_,rfl,fun q=>absurd q.1.2 h⟩
 ·rename_i h;exact ⟨_,rfl,fun q=>absurd q.1.1 h⟩
theorem aaL {c most lo hi p:Int} (hc:100≤c) (h0:0≤lo) (h:lo*4000000≤p) (h':p≤hi*4000000) (hm:1≤most):0≤min (p / 4000000 / c) (most - 1)∧(pX c ⟨lo,hi⟩ most).1≤min (p / 4000000 / c) (most - 1)∧min (p / 4000000 / c) (most - 1)≤(pX c ⟨lo,hi⟩ most).2:=by
 have a:=Int.ediv_le_ediv (a:=lo) (b:=p / 4000000) (show 0 < c by omega) (by omega)
 have b:=Int.ediv_le_ediv (a:=p / 4000000) (b:=hi) (show 0 < c by omega) (by omega)
 have d:=Bl (x:=p / 4000000) (c:=c) (by omega) (by omega)
 have f:=(VQ c lo).1
 unfold pX
 dsimp only
 omega
theorem XE {s:lF} {rb:gz} {px py:Int} (hS:xz s) (h0:0≤rb.f0.f0) (h1:0≤rb.f1.f0) (hp:LB rb px py):
 (0≤min (px / 4000000 / s.cell) (s.nx - 1)∧min (px / 4000000 / s.cell) (s.nx - 1)≤s.nx - 1)∧(0≤min (py / 4000000 / s.cell) (s.ny - 1)∧min (py / 4000000 / s.cell) (s.ny - 1)≤s.ny - 1)∧min (py / 4000000 / s.cell) (s.ny - 1)*s.nx+min (px / 4000000 / s.cell) (s.nx - 1) ∈ nW s rb:=by
 have a:=aaL (most:=s.nx) hS.cell.1 h0 hp.1.1 hp.1.2 hS.nx.1
 have b:=aaL (most:=s.ny) hS.cell.1 h1 hp.2.1 hp.2.2 hS.ny.1
 exact ⟨⟨a.1,by omega⟩,⟨b.1,by omega⟩,LA.2 ⟨_,_,⟨b.2.1,b.2.2⟩,⟨a.2.1,a.2.2⟩,rfl⟩⟩
theorem anR {s:lF} {rb:gz} {layer t now u c:Int} (hd:0 < s.slot) (ht:t≤now∧now < u) (hc:c ∈ nW s rb):oI (rQ s layer (now / s.slot) c) (z8 s rb layer t u):=by
 have a:=Int.ediv_le_ediv (a:=t) (b:=now) hd (by omega)
 have b:=Int.ediv_le_ediv (a:=now) (b:=u - 1) hd (by omega)
 have hm:rQ s layer (now / s.slot) c ∈ iP s rb layer (t / s.slot) ((u - 1) / s.slot+1 - t / s.slot).toNat:=Bd.2 ⟨(now / s.slot - t / s.slot).toNat,by omega,c,hc,by rw [show t / s.slot+((now / s.slot - t / s.slot).toNat:Int) = now / s.slot from by omega]⟩
 obtain ⟨y,e,h1,_⟩:=Ko (List.ne_nil_of_mem hm)
 unfold z8
 rw [e]
 exact h1 _ hm
end Go.Proofs.Ytmhaiihjfgfaoaa.Gl
end
section
namespace Go.Proofs.Ytmhaiihjfgfaoaa.Pr
open Go.RowKit Go.Proofs.YtmhaiihjfgfaoaaW.PrintWords Go.Proofs.YtmhaiihjfgfaoaaW.PrintLast Go.Proofs.YtmhaiihjfgfaoaaW.PrintMore
attribute [local go_sem] cz cB dK dL cK
set_option linter.unusedVariables false
set_option linter.unusedSimpArgs false
end Go.Proofs.Ytmhaiihjfgfaoaa.Pr
end
section
namespace Go.Proofs.Ytmhaiihjfgfaoaa.Pr
open Go.RowKit Go.Proofs.YtmhaiihjfgfaoaaW.PrintWords Go.Proofs.YtmhaiihjfgfaoaaW.PrintLast Go.Proofs.YtmhaiihjfgfaoaaW.PrintMore
attribute [local go_sem] cz cB dK dL cK
set_option linter.unusedVariables false
set_option linter.unusedSimpArgs false
attribute [local go_sem high] ae5
end Go.Proofs.Ytmhaiihjfgfaoaa.Pr
end
section
namespace Go.Proofs.Ytmhaiihjfgfaoaa.Gl
open Go.RowKit Go.Shelf Go.Proofs.YtmhaiihjfgfaoaaW.PrintWords Go.Proofs.YtmhaiihjfgfaoaaW.PrintLast Go.Proofs.YtmhaiihjfgfaoaaW.PrintMore Go.Proofs.Ytmhaiihjfgfaoaa.Pr Go.Proofs.YtmhaiihjfgfaoaaW.Round
set_option linter.unusedVariables false
set_option linter.unusedSimpArgs false
attribute [local go_sem] cz cB dK dL cK
end Go.Proofs.Ytmhaiihjfgfaoaa.Gl
end
section
namespace Go.Proofs.Ytmhaiihjfgfaoaa.Gl
open Go.RowKit Go.Proofs.YtmhaiihjfgfaoaaW.PrintWords Go.Proofs.YtmhaiihjfgfaoaaW.PrintLast Go.Proofs.YtmhaiihjfgfaoaaW.PrintMore Go.Proofs.Ytmhaiihjfgfaoaa.Pr
set_option linter.unusedVariables false
theorem XF {s:lF} {v:qO} {x:gz} {t:Int} (h:mO s v x t = 0):lY s v x t = 0:=by
 unfold mO at h
 by_cases q:lY s v x t = 0
 ·exact q
 ·rw [if_pos q] at h;exact absurd h q
def Pz (s:lF) (layer T px py:Int):Int:=(T / s.slot*s.layers+layer)*(s.nx*s.ny)+(min (py / 4000000 / s.cell) (s.ny - 1)*s.nx+min (px / 4000000 / s.cell) (s.nx - 1))
theorem aD9 {J L layer nx ny mm kk:Int} (hJ:0≤J∧J≤16) (hL:0≤L∧L≤3) (hl:0≤layer∧layer≤3) (hx:0≤nx∧nx≤12) (hy:0≤ny∧ny≤12) (hm:0≤mm∧mm≤11) (hk:0≤kk∧kk≤11):
 wrap64 (wrap64 (wrap64 (wrap64 (wrap64 (wrap64 (J*L)+layer)*nx)*ny)+wrap64 (mm*nx))+kk) = (J*L+layer)*(nx*ny)+(mm*nx+kk):=by
 have a:=fI hJ.1 hJ.2 hL.1 hL.2
 have b:=fI (a:=J*L+layer) (b:=nx) (m:=51) (n:=12) (by omega) (by omega) hx.1 hx.2
 have c:=fI (a:=(J*L+layer)*nx) (b:=ny) (m:=51*12) (n:=12) b.1 b.2 hy.1 hy.2
 have d:=fI (a:=mm) (b:=nx) (m:=11) (n:=12) hm.1 hm.2 hx.1 hx.2
 rw [bX (x:=J*L) (by omega),bX (x:=J*L+layer) (by omega),bX (x:=(J*L+layer)*nx) (by omega),bX (x:=(J*L+layer)*nx*ny) (by omega),bX (x:=mm*nx) (by omega),bX (x:=(J*L+layer)*nx*ny+mm*nx) (by omega),bX (by omega),Int.mul_assoc (J*L+layer),Int.add_assoc]
end Go.Proofs.Ytmhaiihjfgfaoaa.Gl
end
section
namespace Go.Proofs.Ytmhaiihjfgfaoaa.Gl
open Go.RowKit Go.Proofs.YtmhaiihjfgfaoaaW.PrintWords Go.Proofs.YtmhaiihjfgfaoaaW.PrintLast Go.Proofs.YtmhaiihjfgfaoaaW.PrintMore Go.Proofs.Ytmhaiihjfgfaoaa.Pr
set_option linter.unusedVariables false
def aaM (s:lF):Prop:=∀ c ∈ s.currents,(-s.most≤c.f0.f0∧c.f0.f1≤s.most)∧(-s.most≤c.f1.f0∧c.f1.f1≤s.most)
theorem acE {s:lF} (h:uk s = 0):aaM s:=by
 unfold uk at h
 cases hb:Mj s with
 |false=>rw [hb] at h;cases h
 |true =>
  unfold Mj at hb
  simp only [Bool.and_eq_true,Bool.not_eq_true'] at hb
  intro c hc
  have h2:=List.any_eq_false.1 hb.2 c hc
  unfold O1 at h2
  cases h3:vR c.f0.f0 c.f0.f1 (-s.most) s.most with
  |false=>rw [h3] at h2;exact absurd rfl h2
  |true =>
   cases h4:vR c.f1.f0 c.f1.f1 (-s.most) s.most with
   |false=>rw [h3,h4] at h2;exact absurd rfl h2
   |true =>
    have a:=O0.1 h3
    have b:=O0.1 h4
    exact ⟨a.2,b.2⟩
theorem aj7 {s:lF} (hM:aaM s) (h0:0≤s.most) (x:gz) (layer t u:Int):oI (z8 s x layer t u) ⟨⟨-s.most,s.most⟩,⟨-s.most,s.most⟩⟩:=by
 unfold z8
 by_cases hl:iP s x layer (t / s.slot) ((u - 1) / s.slot+1 - t / s.slot).toNat = []
 ·rw [hl]
  have hz:(qw []).getD z31 = z31:=rfl
  rw [hz]
  unfold oI z31 z27
  dsimp only
  omega
 ·obtain ⟨y,e,_,h2⟩:=Ko hl
  rw [e]
  refine h2 _ (fun a ha=>?_)
  obtain ⟨r,_,c,_,rfl⟩:=Bd.1 ha
  unfold rQ oI
  dsimp only
  generalize ((t / s.slot+(r:Int))*s.layers+layer)*(s.nx*s.ny)+c = I
  unfold aH
  rw [List.getD_eq_getElem?_getD]
  cases hq:s.currents[I.toNat]? with
  |none =>
   have e1:(none:Option nU).getD z40 = z40:=rfl
   rw [e1]
   unfold z40 z27
   dsimp only
   omega
  |some c =>
   have:=hM c (List.mem_of_getElem? hq)
   have e1:(some c).getD z40 = c:=rfl
   rw [e1]
   omega
def quA (s:lF) (v:qO) (X:gz) (T hd layer:Int):gz :=
 ⟨⟨((pU hd).1*v.speed+1000*(z8 s (dB s v X) layer T (T+v.dive)).f0.f0)*v.dive,((pU hd).1*v.speed+1000*(z8 s (dB s v X) layer T (T+v.dive)).f0.f1)*v.dive⟩,
  ⟨((pU hd).2*v.speed+1000*(z8 s (dB s v X) layer T (T+v.dive)).f1.f0)*v.dive,((pU hd).2*v.speed+1000*(z8 s (dB s v X) layer T (T+v.dive)).f1.f1)*v.dive⟩⟩
def PQ (X A:gz) (q px py:Int):Prop:=(X.f0.f0*4000000+q*A.f0.f0≤px∧px≤X.f0.f1*4000000+q*A.f0.f1)∧(X.f1.f0*4000000+q*A.f1.f0≤py∧py≤X.f1.f1*4000000+q*A.f1.f1)
theorem aj8 {X A:gz} {px py:Int} (h:LB X px py):PQ X A 0 px py:=by
 unfold PQ
 unfold LB at h
 simp only [Int.zero_mul]
 omega
theorem aj9 {s:lF} {v:qO} {X:gz} {T hd layer px py:Int} (hD:mO s v X T = 0) (h:PQ X (quA s v X T hd layer) 4 px py):LB (kY s v X T hd layer) px py:=by
 have hz:kY s v X T hd layer = vX s v X (dB s v X) T hd layer:=by unfold kY;rw [if_pos hD]
 rw [hz]
 unfold PQ quA at h
 unfold LB vX nL Dm Uo
 dsimp only at h ⊢
 omega
theorem TP {q a b:Int} (hq:0≤q∧q≤4) (hb:0≤b) (h0:-b≤a) (h1:a≤b):-(4*b)≤q*a∧q*a≤4*b:=by
 have k1:=Int.mul_le_mul_of_nonneg_left h1 hq.1
 have k2:=Int.mul_le_mul_of_nonneg_left h0 hq.1
 have k3:=Int.mul_le_mul_of_nonneg_right hq.2 hb
 rw [Int.mul_neg] at k2
 omega
theorem ae6 {s:lF} {v:qO} {X:gz} {T hd layer px py q:Int} (hS:PU s) (hM:aaM s) (hV:Br v) (hX:qx X) (hD:mO s v X T = 0) (hq:0≤q∧q≤3) (hp:PQ X (quA s v X T hd layer) q px py) (hl:0≤layer∧layer < s.layers):
 (0≤px∧px≤4000000000000)∧(0≤py∧py≤4000000000000)∧(0≤T∧(T+q*v.dive / 4) / s.slot < s.slots∧0≤(T+q*v.dive / 4) / s.slot∧T≤16777216∧0≤q*v.dive∧q*v.dive≤3*131072)∧
 ((0≤min (px / 4000000 / s.cell) (s.nx - 1)∧min (px / 4000000 / s.cell) (s.nx - 1)≤11)∧(0≤min (py / 4000000 / s.cell) (s.ny - 1)∧min (py / 4000000 / s.cell) (s.ny - 1)≤11))∧
 (0≤Pz s layer (T+q*v.dive / 4) px py∧Pz s layer (T+q*v.dive / 4) px py < (s.currents.length:Int))∧
 (let c:=aH s.currents (Pz s layer (T+q*v.dive / 4) px py);((-5000≤c.f0.f0∧c.f0.f0≤c.f0.f1∧c.f0.f1≤5000)∧(-5000≤c.f1.f0∧c.f1.f0≤c.f1.f1∧c.f1.f1≤5000))∧
  ∀ pu pv:Int,(c.f0.f0≤pu∧pu≤c.f0.f1)→(c.f1.f0≤pv∧pv≤c.f1.f1)→PQ X (quA s v X T hd layer) (q+1) (px+((pU hd).1*v.speed+1000*pu)*v.dive) (py+((pU hd).2*v.speed+1000*pv)*v.dive)):=by
 have hr:=XF hD
 obtain ⟨hi,⟨hT0,hT1⟩,hb0,hb1⟩:=IG hS.n hV hX hr
 have hsl:=hS.n.slot
 have hslots:=hS.n.slots
 have hdv:=hV.dive
 have hsp:=hV.speed
 have hmo:=hS.n.most
 have hss:=fI (a:=s.slots) (b:=s.slot) (m:=16) (n:=1048576) (by omega) hslots.2 (by omega) hsl.2
 have hqd:=fI (a:=q) (b:=v.dive) (m:=3) (n:=131072) hq.1 hq.2 (by omega) hdv.2
 have aJO:q*v.dive≤3*v.dive:=Int.mul_le_mul_of_nonneg_right hq.2 (by omega)
 have hnow:T≤T+q*v.dive / 4∧T+q*v.dive / 4 < T+v.dive:=by omega
 have hj:(T+q*v.dive / 4) / s.slot < s.slots:=Int.ediv_lt_of_lt_mul (by omega) (by omega)
 have hj0:0≤(T+q*v.dive / 4) / s.slot:=Int.ediv_nonneg (by omega) (by omega)
 have hZ:=fI (a:=v.speed+s.most) (b:=v.dive) (m:=10000) (n:=131072) (by omega) (by omega) (by omega) hdv.2
 have hat:=aj7 hM hmo.1 (dB s v X) layer T (T+v.dive)
 unfold oI at hat
 dsimp only at hat
 have hbb:=Yr hS.cb (dB s v X) layer T (T+v.dive)
 have hdi:=IC hd
 have hB:∀ D u:Int,(-1000≤D∧D≤1000)→(-s.most≤u∧u≤s.most)→-(1000*((v.speed+s.most)*v.dive))≤(D*v.speed+1000*u)*v.dive∧(D*v.speed+1000*u)*v.dive≤1000*((v.speed+s.most)*v.dive):=by
  intro D u hD hu
  have d1:D*v.speed≤1000*v.speed:=Int.mul_le_mul_of_nonneg_right hD.2 hsp.1
  have d0:-1000*v.speed≤D*v.speed:=Int.mul_le_mul_of_nonneg_right hD.1 hsp.1
  have e1:(D*v.speed+1000*u)*v.dive≤(1000*(v.speed+s.most))*v.dive:=Int.mul_le_mul_of_nonneg_right (by omega) (by omega)
  have e0:(-(1000*(v.speed+s.most)))*v.dive≤(D*v.speed+1000*u)*v.dive:=Int.mul_le_mul_of_nonneg_right (by omega) (by omega)
  rw [Int.neg_mul,Int.mul_assoc] at e0
  rw [Int.mul_assoc 1000 (v.speed+s.most)] at e1
  omega
 unfold BB at hbb
 have q00:=hB _ _ hdi.1 (show -s.most≤(z8 s (dB s v X) layer T (T+v.dive)).f0.f0∧(z8 s (dB s v X) layer T (T+v.dive)).f0.f0≤s.most by omega)
 have q01:=hB _ _ hdi.1 (show -s.most≤(z8 s (dB s v X) layer T (T+v.dive)).f0.f1∧(z8 s (dB s v X) layer T (T+v.dive)).f0.f1≤s.most by omega)
 have q10:=hB _ _ hdi.2 (show -s.most≤(z8 s (dB s v X) layer T (T+v.dive)).f1.f0∧(z8 s (dB s v X) layer T (T+v.dive)).f1.f0≤s.most by omega)
 have q11:=hB _ _ hdi.2 (show -s.most≤(z8 s (dB s v X) layer T (T+v.dive)).f1.f1∧(z8 s (dB s v X) layer T (T+v.dive)).f1.f1≤s.most by omega)
 have hq4:0≤q∧q≤4:=by omega
 have r00:=TP hq4 (by omega) q00.1 q00.2
 have r01:=TP hq4 (by omega) q01.1 q01.2
 have r10:=TP hq4 (by omega) q10.1 q10.2
 have r11:=TP hq4 (by omega) q11.1 q11.2
 have hp2:=hp
 unfold PQ quA at hp2
 dsimp only at hp2
 have hg:LB (dB s v X) px py:=by
  unfold LB dB
  dsimp only
  generalize (v.speed+s.most)*v.dive = Z at*
  omega
 have hct:=XE hS.n hi.1.1 hi.2.2.1.1 hg
 obtain ⟨⟨k0,k1⟩,⟨m0,m1⟩,hmem⟩:=hct
 have hcu:=anR (s:=s) (layer:=layer) (now:=T+q*v.dive / 4) (t:=T) (u:=T+v.dive) (by omega) hnow hmem
 have hnx:=hS.n.nx
 have hny:=hS.n.ny
 have hmk:0≤min (py / 4000000 / s.cell) (s.ny - 1)*s.nx+min (px / 4000000 / s.cell) (s.nx - 1)∧min (py / 4000000 / s.cell) (s.ny - 1)*s.nx+min (px / 4000000 / s.cell) (s.nx - 1) < s.nx*s.ny:=by
  generalize min (py / 4000000 / s.cell) (s.ny - 1) = m at*
  generalize min (px / 4000000 / s.cell) (s.nx - 1) = k at*
  have a:0≤m*s.nx:=Int.mul_nonneg m0 (by omega)
  have b:m*s.nx≤(s.ny - 1)*s.nx:=Int.mul_le_mul_of_nonneg_right m1 (by omega)
  rw [Int.sub_mul,Int.one_mul,Int.mul_comm s.ny] at b
  omega
 have hix:=OL (q:=(T+q*v.dive / 4) / s.slot) (l:=layer) (k:=s.nx*s.ny) (c:=min (py / 4000000 / s.cell) (s.ny - 1)*s.nx+min (px / 4000000 / s.cell) (s.nx - 1)) (ll:=s.slots) (kk:=s.layers) hj0 hj hl.1 hl.2 hmk.1 hmk.2
 rw [← hS.cu] at hix
 have hcb:rQ s layer ((T+q*v.dive / 4) / s.slot) (min (py / 4000000 / s.cell) (s.ny - 1)*s.nx+min (px / 4000000 / s.cell) (s.nx - 1)) = ⟨(aH s.currents (Pz s layer (T+q*v.dive / 4) px py)).f0,(aH s.currents (Pz s layer (T+q*v.dive / 4) px py)).f1⟩:=rfl
 rw [hcb] at hcu
 have hlt:(Pz s layer (T+q*v.dive / 4) px py).toNat < s.currents.length:=by
  have:=hix.2
  have:=hix.1
  unfold Pz
  omega
 have hrd:aH s.currents (Pz s layer (T+q*v.dive / 4) px py) = s.currents[(Pz s layer (T+q*v.dive / 4) px py).toNat]:=by
  unfold aH
  rw [List.getD_eq_getElem?_getD,List.getElem?_eq_getElem hlt]
  rfl
 have hb:=hS.cb _ (List.getElem_mem hlt)
 rw [← hrd] at hb
 have hpos:(0≤px∧px≤4000000000000)∧(0≤py∧py≤4000000000000):=by
  unfold LB at hg
  have g0:=hi.1
  have gg:(dB s v X).f0.f1≤1000000∧(dB s v X).f1.f1≤1000000:=by
   have hc:=hS.n.cell
   have c0:=fI (a:=s.nx) (b:=s.cell) (m:=12) (n:=65536) (by omega) hnx.2 (by omega) hc.2
   have c1:=fI (a:=s.ny) (b:=s.cell) (m:=12) (n:=65536) (by omega) hny.2 (by omega) hc.2
   unfold lY at hr
   cases hcc:gN s (dB s v X) with
   |false=>rw [hcc] at hr;cases hr
   |true =>
    unfold gN at hcc
    simp only [Bool.and_eq_true,decide_eq_true_eq] at hcc
    omega
  have g1:=hi.2.2.1
  omega
 refine ⟨hpos.1,hpos.2,⟨hT0,hj,hj0,by omega,hqd.1,hqd.2⟩,⟨⟨k0,by omega⟩,⟨m0,by omega⟩⟩,hix,⟨⟨by omega,by omega,by omega⟩,⟨by omega,by omega,by omega⟩⟩,?_⟩
 intro pu pv hu hv
 unfold oI at hcu
 dsimp only at hcu
 have l00:((pU hd).1*v.speed+1000*(z8 s (dB s v X) layer T (T+v.dive)).f0.f0)*v.dive≤((pU hd).1*v.speed+1000*pu)*v.dive:=Int.mul_le_mul_of_nonneg_right (by omega) (by omega)
 have l01:((pU hd).1*v.speed+1000*pu)*v.dive≤((pU hd).1*v.speed+1000*(z8 s (dB s v X) layer T (T+v.dive)).f0.f1)*v.dive:=Int.mul_le_mul_of_nonneg_right (by omega) (by omega)
 have l10:((pU hd).2*v.speed+1000*(z8 s (dB s v X) layer T (T+v.dive)).f1.f0)*v.dive≤((pU hd).2*v.speed+1000*pv)*v.dive:=Int.mul_le_mul_of_nonneg_right (by omega) (by omega)
 have l11:((pU hd).2*v.speed+1000*pv)*v.dive≤((pU hd).2*v.speed+1000*(z8 s (dB s v X) layer T (T+v.dive)).f1.f1)*v.dive:=Int.mul_le_mul_of_nonneg_right (by omega) (by omega)
 unfold PQ quA
 dsimp only
 rw [Int.add_mul q 1,Int.add_mul q 1,Int.add_mul q 1,Int.add_mul q 1]
 omega
theorem alM {px D speed pu dive:Int} (hpx:0≤px∧px≤4000000000000) (hD:-1000≤D∧D≤1000) (hs:0≤speed∧speed≤5000) (hp:-5000≤pu∧pu≤5000) (hd:0≤dive∧dive≤131072):
 wrap64 (px+wrap64 (wrap64 (wrap64 (D*speed)+wrap64 (1000*pu))*dive)) = px+(D*speed+1000*pu)*dive:=by
 have a:=nH (a:=D) (b:=speed) (m:=1000) (n:=5000) hD.1 hD.2 hs.1 hs.2 (by omega)
 rw [bX (x:=D*speed) (by omega),bX (x:=1000*pu) (by omega),bX (x:=D*speed+1000*pu) (by omega)]
 have b:=nH (a:=D*speed+1000*pu) (b:=dive) (m:=10000000) (n:=131072) (by omega) (by omega) hd.1 hd.2 (by omega)
 rw [bX (x:=(D*speed+1000*pu)*dive) (by omega),bX (by omega)]
end Go.Proofs.Ytmhaiihjfgfaoaa.Gl
end
section
namespace Go.Proofs.Ytmhaiihjfgfaoaa.Pr
open Go.RowKit Go.Proofs.YtmhaiihjfgfaoaaW.PrintWords Go.Proofs.YtmhaiihjfgfaoaaW.PrintLast Go.Proofs.YtmhaiihjfgfaoaaW.PrintMore
attribute [local go_sem] cz cB dK dL cK
set_option linter.unusedVariables false
set_option linter.unusedSimpArgs false
end Go.Proofs.Ytmhaiihjfgfaoaa.Pr
end
