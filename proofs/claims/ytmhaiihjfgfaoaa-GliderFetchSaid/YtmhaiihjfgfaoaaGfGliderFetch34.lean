import Derived.SizedLaws
import Derived.ChangeSlices
import Derived.Deep.Slices
import Derived.ChangeArms
import Derived.DataReads
import Derived.WideShapes
import Derived.Test.YtmhaiihjfgfaoaaGfGliderFetch3
import Derived.Test.YtmhaiihjfgfaoaaGfGliderFetch16
import Derived.Test.YtmhaiihjfgfaoaaGfGliderFetch7
import Derived.Test.YtmhaiihjfgfaoaaGfGliderFetch17
import Derived.Test.YtmhaiihjfgfaoaaGfGliderFetch18
import Derived.Test.YtmhaiihjfgfaoaaGfGliderFetch15
import Derived.Test.YtmhaiihjfgfaoaaGfGliderFetch31
import Derived.Test.YtmhaiihjfgfaoaaGfGliderFetch6
import Derived.Test.YtmhaiihjfgfaoaaGfGliderFetch27
import Derived.Test.YtmhaiihjfgfaoaaGfGliderFetch5
import Derived.Test.YtmhaiihjfgfaoaaGfGliderFetch19
import Derived.Test.YtmhaiihjfgfaoaaGfGliderFetch22
set_option linter.unusedVariables false
set_option linter.unusedSimpArgs false
section
namespace Go.Proofs.YtmhaiihjfgfaoaaW.PrintWords
open Go.ChangeShapes Go.WideShapes
end Go.Proofs.YtmhaiihjfgfaoaaW.PrintWords
end
section
namespace Go.Proofs.YtmhaiihjfgfaoaaW.iU
open Go.RowKit Go.Proofs.YtmhaiihjfgfaoaaW.PrintWords Go.Deep Go.ChangeShapes Go.WideShapes
set_option linter.unusedVariables false
section
variable {H:Type} {enc:TypeId × Value→H} {P:Program}
def iU {α:Type} (enc:TypeId × Value→H) (P:Program) (t:TypeId) (K:Kd α) (G:α→Prop):Prop :=
 ∀ (w:World) (fuel:Nat) (cs:List Value) (x:DataW H × List MemPlace),DataW.trod enc P w 0 (fun _=>true) true fuel t cs = some x→(DataW.weights P t x.1).all (·≤reachBytes) = true→∃ y,K.K w y cs∧G y
theorem iU.int {t:TypeId} {k:IntKind} (hu:P.underlying t = some (.int k)):iU enc P t (Kd.int k) (fun n=>(Lit.int k n).wf = true):=by
 intro w fuel cs x h _
 cases fuel with
 |zero=>simp [DataW.trod] at h
 |succ n =>
  unfold DataW.trod at h
  rw [hu] at h
  split at h <;> simp_all
  obtain ⟨⟨rfl,hw⟩,_⟩:=h
  rename_i n _ _
  exact ⟨_,rfl,hw⟩
theorem iU.bool {t:TypeId} (hu:P.underlying t = some .bool):iU enc P t Kd.bool (fun _=>True):=by
 intro w fuel cs x h _
 cases fuel with
 |zero=>simp [DataW.trod] at h
 |succ n =>
  unfold DataW.trod at h
  rw [hu] at h
  split at h <;> simp_all
  rename_i b _
  cases b
  ·exact .inl rfl
  ·exact .inr rfl
def ku {α:Type} (enc:TypeId × Value→H) (P:Program) (off:Nat) (fs:List Field) (K:Kd α) (G:α→Prop):Prop :=
 ∀ (w:World) (fuel:Nat) (cs:List Value) (xs:List (DataW H × List MemPlace)),cs.length = off+K.sz→xs.length = fs.length→
  (∀ (i:Nat) (f:Field),fs[i]? = some f→DataW.trod enc P w 0 (fun _=>true) true fuel f.type ((cs.drop f.offset).take (P.cellsOf f.type)) = xs[i]?)→
  (DataW.weightsEach P (fs.map (·.type)) (xs.map (·.1))).all (·≤reachBytes) = true→∃ y,K.K w y (cs.drop off)∧G y
theorem ku.one {α:Type} {off:Nat} {f:Field} {K:Kd α} {G:α→Prop} (hoff:f.offset = off) (hsz:P.cellsOf f.type = K.sz) (h:iU enc P f.type K G):ku enc P off [f] K G:=by
 intro w fuel cs xs hl hx hi hw
 obtain ⟨x,rfl⟩:∃ x,xs = [x]:=by
  match xs,hx with
  |[x],_=>exact ⟨x,rfl⟩
 have h1:=hi 0 f rfl
 rw [hoff,hsz,List.take_of_length_le (by simp;omega)] at h1
 exact h w fuel _ x h1 (by simpa [DataW.weightsEach] using hw)
theorem ku.cons {α β:Type} {off:Nat} {f:Field} {fs:List Field} {K:Kd α} {G:α→Prop} {K':Kd β} {G':β→Prop} (hoff:f.offset = off) (hsz:P.cellsOf f.type = K.sz) (h:iU enc P f.type K G) (h':ku enc P (off+K.sz) fs K' G'):
 ku enc P off (f :: fs) (Kd.pair K K') (fun y=>G y.1∧G' y.2):=by
 intro w fuel cs xs hl hx hi hw
 obtain ⟨x,xs',rfl⟩:∃ x xs',xs = x :: xs':=by
  match xs,hx with
  |x :: xs',_=>exact ⟨x,xs',rfl⟩
 have hl2:cs.length = off+(K.sz+K'.sz):=hl
 have h1:=hi 0 f rfl
 rw [hoff,hsz] at h1
 simp only [List.map_cons,DataW.weightsEach,List.all_append,Bool.and_eq_true] at hw
 obtain ⟨y,hy,gy⟩:=h w fuel _ x h1 hw.1
 obtain ⟨y',hy',gy'⟩:=h' w fuel cs xs' (by omega) (by simpa using hx) (fun i g hg=>by simpa using hi (i+1) g (by simpa using hg)) hw.2
 refine ⟨(y,y'),⟨_,_,?_,hy,hy'⟩,gy,gy'⟩
 rw [← List.drop_drop,List.take_append_drop]
theorem iU.struct {α β:Type} {t:TypeId} {fs:Array Field} {K:Kd α} {G:α→Prop} {f:β→α} (g:α→β) (hu:P.underlying t = some (.struct fs)) (hsz:P.cellsOf t = K.sz) (hg:∀ y,f (g y) = y) (h:ku enc P 0 fs.toList K G):
 iU enc P t (Kd.iso K f) (fun z=>G (f z)):=by
 intro w fuel cs x hx hw
 obtain ⟨xs,n,rfl,rfl,hl,hxl,hi⟩:=DataW.trod_struct hu hx
 obtain ⟨y,hy,gy⟩:=h w n cs xs (by omega) (by simpa using hxl) (fun i f hf=>hi i f (by simpa using hf)) (by simpa [DataW.weights,hu] using hw)
 refine ⟨g y,?_,by show G (f (g y));rw [hg];exact gy⟩
 show K.K w (f (g y)) cs
 rw [hg]
 simpa using hy
def EX {α:Type} (enc:TypeId × Value→H) (P:Program) (e:TypeId) (i n:Nat) (K:Kd α) (G:α→Prop):Prop :=
 ∀ (w:World) (fuel:Nat) (cs:List Value) (xs:List (DataW H × List MemPlace)),cs.length = i*P.cellsOf e+K.sz→xs.length = n→
  (∀ (j:Nat),j < n→DataW.trod enc P w 0 (fun _=>true) true fuel e ((cs.drop ((i+j)*P.cellsOf e)).take (P.cellsOf e)) = xs[j]?)→
  (DataW.weightsAll P e (xs.map (·.1))).all (·≤reachBytes) = true→∃ y,K.K w y (cs.drop (i*P.cellsOf e))∧G y
theorem EX.one {α:Type} {e:TypeId} {i:Nat} {K:Kd α} {G:α→Prop} (hsz:P.cellsOf e = K.sz) (h:iU enc P e K G):EX enc P e i 1 K G:=by
 intro w fuel cs xs hl hx hi hw
 obtain ⟨x,rfl⟩:∃ x,xs = [x]:=by
  match xs,hx with
  |[x],_=>exact ⟨x,rfl⟩
 have h1:=hi 0 (by omega)
 rw [Nat.add_zero,List.take_of_length_le (by simp;omega)] at h1
 exact h w fuel _ x h1 (by simpa [DataW.weightsAll] using hw)
theorem EX.cons {α β:Type} {e:TypeId} {i n:Nat} {K:Kd α} {G:α→Prop} {K':Kd β} {G':β→Prop} (hsz:P.cellsOf e = K.sz) (h:iU enc P e K G) (h':EX enc P e (i+1) n K' G'):
 EX enc P e i (n+1) (Kd.pair K K') (fun y=>G y.1∧G' y.2):=by
 intro w fuel cs xs hl hx hi hw
 obtain ⟨x,xs',rfl⟩:∃ x xs',xs = x :: xs':=by
  match xs,hx with
  |x :: xs',_=>exact ⟨x,xs',rfl⟩
 have hl2:cs.length = i*P.cellsOf e+(K.sz+K'.sz):=hl
 have h1:=hi 0 (by omega)
 rw [Nat.add_zero] at h1
 simp only [List.map_cons,DataW.weightsAll,List.all_append,Bool.and_eq_true] at hw
 obtain ⟨y,hy,gy⟩:=h w fuel _ x h1 hw.1
 have e1:(i+1)*P.cellsOf e = i*P.cellsOf e+P.cellsOf e:=by rw [Nat.add_mul,Nat.one_mul]
 obtain ⟨y',hy',gy'⟩:=h' w fuel cs xs' (by omega) (by simpa using hx) (fun j hj=>by
  have:=hi (j+1) (by omega)
  rw [show i+(j+1) = i+1+j from by omega] at this
  simpa using this) hw.2
 refine ⟨(y,y'),⟨_,_,?_,hy,hy'⟩,gy,gy'⟩
 rw [e1,← List.drop_drop,List.take_append_drop]
theorem iU.array {α β:Type} {t e:TypeId} {n:Nat} {K:Kd α} {G:α→Prop} {f:β→α} (g:α→β) (hu:P.underlying t = some (.array n e)) (hsz:P.cellsOf t = K.sz) (hg:∀ y,f (g y) = y) (h:EX enc P e 0 n K G):
 iU enc P t (Kd.iso K f) (fun z=>G (f z)):=by
 intro w fuel cs x hx hw
 cases fuel with
 |zero=>simp [DataW.trod] at hx
 |succ m =>
  unfold DataW.trod at hx
  rw [hu] at hx
  dsimp only at hx
  split at hx
  ·rename_i hl
   rw [Option.map_eq_some_iff] at hx
   obtain ⟨xs,hm,rfl⟩:=hx
   obtain ⟨y,hy,gy⟩:=h w m cs xs (by omega) (by simpa using mapM_some_length hm) (fun j hj=>by
    have:=mapM_some_get hm j j (by simp [hj])
    simpa using this) (by simpa [DataW.weights,hu] using hw)
   refine ⟨g y,?_,by show G (f (g y));rw [hg];exact gy⟩
   show K.K w (f (g y)) cs
   rw [hg]
   simpa using hy
  ·cases hx
theorem UR {α:Type} {Q:Nat→α→Prop}:∀ (n:Nat),(∀ i,i < n→∃ y,Q i y)→∃ ys:List α,ys.length = n∧∀ i y,ys[i]? = some y→Q i y
 |0,_=>⟨[],rfl,fun i y h=>by simp at h⟩
 |n+1,h=>by
  obtain ⟨ys,hl,hq⟩:=UR n (fun i hi=>h i (by omega))
  obtain ⟨y,hy⟩:=h n (by omega)
  refine ⟨ys++[y],by simp [hl],fun i z hz=>?_⟩
  rw [List.getElem?_append] at hz
  split at hz
  ·exact hq i z hz
  ·rename_i hi
   obtain rfl:i = n:=by
    have:=(List.getElem?_eq_some_iff.1 hz).1
    simp at this
    omega
   simp [hl] at hz
   exact hz ▸ hy
theorem JC {e:TypeId}:∀ {ds:List (DataW H)} {d:DataW H},(DataW.weightsAll P e ds).all (·≤reachBytes) = true→d ∈ ds→(DataW.weights P e d).all (·≤reachBytes) = true
 |[],_,_,h=>by cases h
 |a :: r,d,hw,h=>by
  simp only [DataW.weightsAll,List.all_append,Bool.and_eq_true] at hw
  rcases List.mem_cons.1 h with rfl|h
  ·exact hw.1
  ·exact JC hw.2 h
theorem iU.slice {α:Type} {t e:TypeId} (e':Nat) {K:Kd α} {G:α→Prop} (hu:P.underlying t = some (.slice e)) (hsz:P.cellsOf e = K.sz) (h:iU enc P e K G):
 iU enc P t (Kd.slice e' K) (fun ys=>(∀ y ∈ ys,G y)∧ys.length*P.bytesOf e≤reachBytes):=by
 intro w fuel cs x hx hw
 rcases open_slice hu hx with ⟨rfl,rfl⟩|⟨a,len,cap,m,n,D,Pl,rfl,hb,hl,hm,hmm,rfl,hi⟩
 ·exact ⟨[],⟨none,0,rfl,by simp,⟨rfl,by simp,fun h=>by simp at h⟩⟩,by simp,by simp⟩
 ·have hmc:m = cap:=by simpa using hmm
  subst hmc
  simp only [DataW.weights,hu,List.all_cons,List.all_append,Bool.and_eq_true,decide_eq_true_eq,List.length_map,List.length_range] at hw
  obtain ⟨ys,hyl,hys⟩:=UR (Q:=fun i y=>(∃ cs',w.cells? 0 (a.add (i*P.cellsOf e)) (P.cellsOf e) = some cs'∧K.K w y cs')∧G y) len (fun i hil=>by
   obtain ⟨cs',hc,ht⟩:=hi i (by omega)
   obtain ⟨y,hy,gy⟩:=h w n cs' _ ht (JC hw.2.1 (List.mem_map.2 ⟨i,List.mem_range.2 hil,rfl⟩))
   exact ⟨y,⟨cs',hc,hy⟩,gy⟩)
  refine ⟨ys,⟨some a,m,by rw [hyl],by omega,hyl.trans hyl.symm |>.trans (by rfl),?_,fun _=>⟨a,rfl,fun j p hj=>?_⟩⟩,fun y hy=>?_,?_⟩
  ·unfold maxLen at hm
   omega
  ·obtain ⟨⟨cs',hc,hk⟩,_⟩:=hys j p hj
   obtain ⟨_,hcl,hcell⟩:=World.cells?_some hc
   refine ⟨cs',by rw [hcl,hsz],hk,fun i u hu'=>?_⟩
   have hlt:=(List.getElem?_eq_some_iff.1 hu').1
   rw [← Go.Deep.add_add,← hsz,hcell i (by omega),hu']
  ·obtain ⟨j,hj⟩:=List.getElem?_of_mem hy
   exact (hys j y hj).2
  ·refine Nat.le_trans (Nat.mul_le_mul_right _ (show ys.length≤len+(m - len) by omega)) hw.1
theorem iU.arg {α:Type} {t:TypeId} {K:Kd α} {G:α→Prop} (h:iU enc P t K G) {w:World} {v:Value} {d:DataW H} {p:List MemPlace} (ht:DataW.Trod enc P w 0 (fun _=>true) true t v d p)
 {ts:List TypeId} {ds:List (DataW H)} (hsz:(DataW.weightsEach P ts ds).all (·≤reachBytes) = true) {j:Nat} (hj:ts[j]? = some t) (hd:ds[j]? = some d):∃ y,K.K w y v.cells.toList∧G y:=by
 obtain ⟨fuel,hf⟩:=ht
 exact h w fuel _ _ hf (List.all_eq_true.2 fun n hn=>List.all_eq_true.1 hsz _ (DataW.weights_mem_each hj hd n hn))
end
end Go.Proofs.YtmhaiihjfgfaoaaW.iU
end
section
namespace Go.Proofs.Ytmhaiihjfgfaoaa.Good
open Go.RowKit Go.Proofs.YtmhaiihjfgfaoaaW.PrintWords Go.Proofs.YtmhaiihjfgfaoaaW.PrintLast Go.Proofs.YtmhaiihjfgfaoaaW.PrintMore Go.Proofs.Ytmhaiihjfgfaoaa.Pr Go.Proofs.YtmhaiihjfgfaoaaW.iU
set_option linter.unusedVariables false
def W27 (x:ky):Prop:=(Lit.int .i64 x.f0).wf = true∧(Lit.int .i64 x.f1).wf = true
theorem IP {H:Type} {enc:TypeId × Value→H}:iU enc Try.prog 27 k27 W27:=iU.struct (fun p=>⟨p.1,p.2⟩) Try.underlying27 aM (fun _=>rfl) (ku.cons rfl aM (iU.int Try.underlying2) (ku.one rfl aM (iU.int Try.underlying2)))
def W40 (x:rq):Prop:=W27 x.f0∧W27 x.f1
theorem avD {H:Type} {enc:TypeId × Value→H}:iU enc Try.prog 40 GI W40:=iU.struct (fun p=>⟨p.1,p.2⟩) Try.underlying40 aM (fun _=>rfl) (ku.cons rfl aM IP (ku.one rfl aM IP))
def W25 (x:S25):Prop:=(Lit.int .i64 x.f0).wf = true∧(Lit.int .i64 x.f1).wf = true∧(Lit.int .i64 x.f2).wf = true∧(Lit.int .i64 x.f3).wf = true∧(Lit.int .i64 x.f4).wf = true∧(Lit.int .i64 x.f5).wf = true∧(Lit.int .i64 x.f6).wf = true∧((∀ y ∈ x.f7,True)∧x.f7.length*Try.prog.bytesOf 4≤reachBytes)∧((∀ y ∈ x.f8,W40 y)∧x.f8.length*Try.prog.bytesOf 40≤reachBytes)
theorem avE {H:Type} {enc:TypeId × Value→H}:iU enc Try.prog 25 k25 W25:=iU.struct (fun p=>⟨p.1,p.2.1,p.2.2.1,p.2.2.2.1,p.2.2.2.2.1,p.2.2.2.2.2.1,p.2.2.2.2.2.2.1,p.2.2.2.2.2.2.2.1,p.2.2.2.2.2.2.2.2⟩) Try.underlying25 aM (fun _=>rfl) (ku.cons rfl aM (iU.int Try.underlying3) (ku.cons rfl aM (iU.int Try.underlying3) (ku.cons rfl aM (iU.int Try.underlying2) (ku.cons rfl aM (iU.int Try.underlying2) (ku.cons rfl aM (iU.int Try.underlying3) (ku.cons rfl aM (iU.int Try.underlying3) (ku.cons rfl aM (iU.int Try.underlying2) (ku.cons rfl aM (iU.slice 4 Try.underlying22 aM (iU.bool Try.underlying4)) (ku.one rfl aM (iU.slice 40 Try.underlying23 aM avD))))))))))
def W29 (x:S29):Prop:=(Lit.int .i64 x.f0).wf = true∧(Lit.int .i64 x.f1).wf = true∧W27 x.f2∧W27 x.f3∧(Lit.int .i64 x.f4).wf = true
theorem avF {H:Type} {enc:TypeId × Value→H}:iU enc Try.prog 29 k29 W29:=iU.struct (fun p=>⟨p.1,p.2.1,p.2.2.1,p.2.2.2.1,p.2.2.2.2⟩) Try.underlying29 aM (fun _=>rfl) (ku.cons rfl aM (iU.int Try.underlying2) (ku.cons rfl aM (iU.int Try.underlying2) (ku.cons rfl aM IP (ku.cons rfl aM IP (ku.one rfl aM (iU.int Try.underlying2))))))
def W31 (x:jf):Prop:=W27 x.f0∧W27 x.f1
theorem ai2 {H:Type} {enc:TypeId × Value→H}:iU enc Try.prog 31 k31 W31:=iU.struct (fun p=>⟨p.1,p.2⟩) Try.underlying31 aM (fun _=>rfl) (ku.cons rfl aM IP (ku.one rfl aM IP))
def W33 (x:xN):Prop:=(Lit.int .i64 x.f0).wf = true∧(Lit.int .i64 x.f1).wf = true
theorem avG {H:Type} {enc:TypeId × Value→H}:iU enc Try.prog 33 k33 W33:=iU.struct (fun p=>⟨p.1,p.2⟩) Try.underlying33 aM (fun _=>rfl) (ku.cons rfl aM (iU.int Try.underlying3) (ku.one rfl aM (iU.int Try.underlying3)))
structure G56 where
 f0:Int
 f1:Int
def aAu:Kd G56:=Kd.iso (Kd.pair (Kd.int .u16) (Kd.int .u16)) (fun x:G56=>(x.f0,x.f1))
def W56 (x:G56):Prop:=(Lit.int .u16 x.f0).wf = true∧(Lit.int .u16 x.f1).wf = true
theorem avH {H:Type} {enc:TypeId × Value→H}:iU enc Try.prog 56 aAu W56:=iU.array (fun p=>⟨p.1,p.2⟩) Try.underlying56 aM (fun _=>rfl) (EX.cons aM (iU.int Try.underlying55) (EX.one aM (iU.int Try.underlying55)))
theorem alc {w:World} {x:G56} {cs:List Value} (h:aAu.K w x cs):cs = [.int .u16 x.f0,.int .u16 x.f1]:=by
 obtain ⟨_,_,rfl,rfl,rfl⟩:=h
 exact rfl
def W81 (x:S81):Prop:=W31 x.f0∧(Lit.int .i64 x.f1).wf = true∧(Lit.int .i64 x.f2).wf = true
theorem avI {H:Type} {enc:TypeId × Value→H}:iU enc Try.prog 81 k81 W81:=iU.struct (fun p=>⟨p.1,p.2.1,p.2.2⟩) Try.underlying81 aM (fun _=>rfl) (ku.cons rfl aM ai2 (ku.cons rfl aM (iU.int Try.underlying2) (ku.one rfl aM (iU.int Try.underlying2))))
end Go.Proofs.Ytmhaiihjfgfaoaa.Good
end
section
namespace Go.Proofs.Ytmhaiihjfgfaoaa.Gl
open Go.RowKit Go.Proofs.YtmhaiihjfgfaoaaW.PrintWords Go.Proofs.YtmhaiihjfgfaoaaW.PrintLast Go.Proofs.YtmhaiihjfgfaoaaW.PrintMore Go.Proofs.Ytmhaiihjfgfaoaa.Pr
set_option linter.unusedVariables false
def rH (a b:jf):Prop:=b.f0.f0≤a.f0.f0∧a.f0.f1≤b.f0.f1∧b.f1.f0≤a.f1.f0∧a.f1.f1≤b.f1.f1
theorem rH.rfl' (a:jf):rH a a:=⟨Int.le_refl _,Int.le_refl _,Int.le_refl _,Int.le_refl _⟩
theorem rH.trans {a b c:jf} (h:rH a b) (k:rH b c):rH a c:=by unfold rH at*;omega
theorem rH.antisymm {a b:jf} (h:rH a b) (k:rH b a):a = b:=by
 obtain ⟨⟨a0,a1⟩,⟨a2,a3⟩⟩:=a
 obtain ⟨⟨b0,b1⟩,⟨b2,b3⟩⟩:=b
 unfold rH at*
 dsimp only at h k
 have e0:a0 = b0:=by omega
 have e1:a1 = b1:=by omega
 have e2:a2 = b2:=by omega
 have e3:a3 = b3:=by omega
 rw [e0,e1,e2,e3]
theorem acW {a b:jf}:rH a (BO a b)∧rH b (BO a b):=by
 unfold rH BO
 dsimp only
 omega
theorem ald {a b c:jf} (h:rH a c) (k:rH b c):rH (BO a b) c:=by
 unfold rH BO at*
 dsimp only
 omega
theorem WB:∀ (l:List jf) (z:jf),∃ y,l.foldl aaR (some z) = some y∧(rH z y∧∀ a ∈ l,rH a y)∧∀ b,rH z b→(∀ a ∈ l,rH a b)→rH y b
 |[],z=>⟨z,rfl,⟨rH.rfl' z,fun a h=>by cases h⟩,fun b h _=>h⟩
 |x :: l,z=>by
  obtain ⟨y,h,⟨h1,h2⟩,h3⟩:=WB l (BO z x)
  refine ⟨y,h,⟨acW.1.trans h1,fun a ha=>?_⟩,fun b hb hl=>h3 b (ald hb (hl x (List.mem_cons_self ..))) fun a ha=>hl a (List.mem_cons_of_mem _ ha)⟩
  rcases List.mem_cons.1 ha with rfl|ha
  ·exact acW.2.trans h1
  ·exact h2 a ha
theorem Tj {l:List jf} (h:l≠[]):∃ y,wU l = some y∧(∀ a ∈ l,rH a y)∧∀ b,(∀ a ∈ l,rH a b)→rH y b:=by
 cases l with
 |nil=>exact absurd rfl h
 |cons x l =>
  obtain ⟨y,h,⟨h1,h2⟩,h3⟩:=WB l x
  refine ⟨y,h,fun a ha=>?_,fun b hl=>h3 b (hl x (List.mem_cons_self ..)) fun a ha=>hl a (List.mem_cons_of_mem _ ha)⟩
  rcases List.mem_cons.1 ha with rfl|ha
  ·exact h1
  ·exact h2 a ha
theorem WC {l l':List jf} (h:l≠[]) (hs:∀ a ∈ l,∃ b ∈ l',rH a b):rH (mh l) (mh l'):=by
 obtain ⟨y,e,h1,h2⟩:=Tj h
 have h':l'≠[]:=by
  intro e'
  cases l with
  |nil=>exact h rfl
  |cons x l =>
   obtain ⟨b,hb,_⟩:=hs x (List.mem_cons_self ..)
   rw [e'] at hb;cases hb
 obtain ⟨y',e',h1',h2'⟩:=Tj h'
 unfold mh
 rw [e,e']
 exact h2 y' fun a ha=>by
  obtain ⟨b,hb,hs⟩:=hs a ha
  exact hs.trans (h1' b hb)
theorem apj {nx i0 k0 c:Int} {n m:Nat}:c ∈ allT nx i0 n k0 m↔∃ r:Nat,r < m∧∃ j:Nat,j < n∧c = (k0+(r:Int))*nx+(i0+(j:Int)):=by
 unfold allT ajO
 simp only [List.mem_flatMap,List.mem_range,List.mem_map]
 constructor
 ·rintro ⟨r,hr,j,hj,rfl⟩
  exact ⟨r,hr,j,hj,rfl⟩
 ·rintro ⟨r,hr,j,hj,rfl⟩
  exact ⟨r,hr,j,hj,rfl⟩
theorem ale {nx a b c d k:Int}:k ∈ allT nx a (b+1 - a).toNat c (d+1 - c).toNat↔∃ r i:Int,(c≤r∧r≤d)∧(a≤i∧i≤b)∧k = r*nx+i:=by
 rw [apj]
 constructor
 ·rintro ⟨r,hr,j,hj,rfl⟩
  exact ⟨c+r,a+j,by omega,by omega,rfl⟩
 ·rintro ⟨r,i,hr,hi,rfl⟩
  exact ⟨(r - c).toNat,by omega,(i - a).toNat,by omega,by rw [show c+((r - c).toNat:Int) = r from by omega,show a+((i - a).toNat:Int) = i from by omega]⟩
theorem Qr {s:oJ} {x:jf} {k:Int}:k ∈ rz s x↔∃ r i:Int,((uf s.cell x.f1 s.ny).1≤r∧r≤(uf s.cell x.f1 s.ny).2)∧((uf s.cell x.f0 s.nx).1≤i∧i≤(uf s.cell x.f0 s.nx).2)∧k = r*s.nx+i:=ale
theorem acX (c x:Int):zq c x≤x / c∧x / c - 1≤zq c x:=by unfold zq;split <;> omega
theorem acY {c most:Int} {a:ky} (hc:0 < c) (h:a.f0≤a.f1):(uf c a most).1≤(uf c a most).2:=by
 have:=(acX c a.f0).1
 have:=Int.ediv_le_ediv hc h
 unfold uf
 dsimp only
 omega
theorem aeM {s:oJ} {x:jf} (hc:0 < s.cell) (h0:x.f0.f0≤x.f0.f1) (h1:x.f1.f0≤x.f1.f1):∃ k,k ∈ rz s x:=by
 have a:=acY (c:=s.cell) (most:=s.nx) (a:=x.f0) hc h0
 have b:=acY (c:=s.cell) (most:=s.ny) (a:=x.f1) hc h1
 exact ⟨_,Qr.2 ⟨_,_,⟨Int.le_refl _,b⟩,⟨Int.le_refl _,a⟩,rfl⟩⟩
theorem KZ {s:oJ} {x:jf} {layer j0:Int} {q:Nat} {y:jf}:y ∈ kg s x layer j0 q↔∃ r:Nat,r < q∧∃ c ∈ rz s x,y = yZ s layer (j0+(r:Int)) c:=by
 unfold kg slotL
 simp only [List.mem_flatMap,List.mem_range,List.mem_map]
 constructor
 ·rintro ⟨r,hr,c,hc,rfl⟩
  exact ⟨r,hr,c,hc,rfl⟩
 ·rintro ⟨r,hr,c,hc,rfl⟩
  exact ⟨r,hr,c,hc,rfl⟩
theorem WE {t u d:Int} (hd:0 < d) (h:t < u):0 < ((u - 1) / d+1 - t / d).toNat:=by
 have:=Int.ediv_le_ediv (a:=t) (b:=u - 1) hd (by omega)
 omega
theorem acZ {s:oJ} {v:tF} {x:jf} (hS:BX s) (hV:Fy v) (hx:xD x):(fu s v x).f0.f0≤(fu s v x).f0.f1∧(fu s v x).f1.f0≤(fu s v x).f1.f1:=by
 have:=(iI (a:=v.speed+s.most) (b:=v.dive) (m:=10000) (n:=131072) auZ auZ (by have:=hV.dive;omega) hV.dive.2).1
 unfold fu
 obtain ⟨_,h0,h1⟩:=hx
 dsimp only
 omega
theorem dH {x:Int} (h:-9223372036854775808≤x∧x < 9223372036854775808):wrap64 x = x:=by unfold wrap64;omega
theorem K3 (lo hi:Int):bU.f lo hi = some (MK lo hi):=by
 unfold bU.f aW.f
 rw [show MK lo hi = (decide (lo≤hi) && (decide (-1073741824≤lo) && decide (lo≤1073741824)) && (decide (-1073741824≤hi) && decide (hi≤1073741824))) from by
  rw [Bool.eq_iff_iff,BS];simp only [Bool.and_eq_true,decide_eq_true_eq];omega]
 by_cases h1:lo≤hi <;> by_cases h2:-1073741824≤lo <;> by_cases h3:lo≤1073741824 <;> by_cases h4:-1073741824≤hi <;> by_cases h5:hi≤1073741824 <;> simp [h1,h2,h3,h4,h5]
theorem EY (lo hi a b:Int):bK.f lo hi a b = some (xq lo hi a b):=by
 unfold bK.f xq
 rw [K3,Option.bind_some]
 cases MK lo hi with
 |false=>rfl
 |true =>
  by_cases h:a≤lo <;> simp [h]
theorem aeN (x lo hi:Int):aW.f x lo hi = some (ow x lo hi):=by
 unfold aW.f ow
 by_cases h:lo≤x <;> simp [h]
theorem aaa (x:jf):dB.f x.f0.f0 x.f0.f1 x.f1.f0 x.f1.f1 = some (Mj x):=by
 unfold dB.f Mj
 simp only [K3,aeN,Option.bind_some]
 cases MK x.f0.f0 x.f0.f1 <;> cases MK x.f1.f0 x.f1.f1 <;> cases ow x.f0.f0 (-268435456) 268435456 <;> cases ow x.f0.f1 (-268435456) 268435456 <;> cases ow x.f1.f0 (-268435456) 268435456 <;> cases ow x.f1.f1 (-268435456) 268435456 <;> rfl
theorem ai3 (v:tF):dP.f v.speed v.dive v.use.f0 v.use.f1 v.drift.f0 v.drift.f1 v.reserve = some (Q8 v):=by
 unfold dP.f Q8 Dt ow
 simp only [EY,Option.bind_some]
 by_cases h1:v.speed < 0
 ·rw [if_pos h1,show decide (0≤v.speed) = false from decide_eq_false (by omega)];rfl
 rw [if_neg h1,show decide (0≤v.speed) = true from decide_eq_true (by omega)]
 by_cases h2:v.speed > 5000
 ·rw [if_pos h2,show decide (v.speed≤5000) = false from decide_eq_false (by omega)];rfl
 rw [if_neg h2,show decide (v.speed≤5000) = true from decide_eq_true (by omega)]
 by_cases h3:v.dive < 1
 ·rw [if_pos h3,show decide (1≤v.dive) = false from decide_eq_false (by omega)];rfl
 rw [if_neg h3,show decide (1≤v.dive) = true from decide_eq_true (by omega)]
 by_cases h4:v.dive > 131072
 ·rw [if_pos h4,show decide (v.dive≤131072) = false from decide_eq_false (by omega)];rfl
 rw [if_neg h4,show decide (v.dive≤131072) = true from decide_eq_true (by omega)]
 cases xq v.use.f0 v.use.f1 0 1073741824
 ·rfl
 cases xq v.drift.f0 v.drift.f1 0 1073741824
 ·rfl
 by_cases h5:v.reserve < 0
 ·rw [if_pos h5,show decide (0≤v.reserve) = false from decide_eq_false (by omega)];rfl
 rw [if_neg h5,show decide (0≤v.reserve) = true from decide_eq_true (by omega)]
 by_cases h6:v.reserve > 1073741824
 ·rw [if_pos h6,show decide (v.reserve≤1073741824) = false from decide_eq_false (by omega)];rfl
 rw [if_neg h6,show decide (v.reserve≤1073741824) = true from decide_eq_true (by omega)];rfl
theorem ac0 (s:oJ) (hm:0≤s.most∧s.most≤5000) (hl:s.currents.length≤100000):∀ (m i K:Nat),i+m = s.currents.length→m+1≤K→
 az.l0 K (i:Int) s.nx s.ny s.cell s.slot s.slots s.layers s.most s.shores s.currents = some (if (s.currents.drop i).any (U3 s.most) then 2 else 0)
 |0,i,K+1,h,hk=>by
  rw [az.l0,if_neg (by omega),List.drop_eq_nil_of_le (by omega)];rfl
 |m+1,i,K+1,h,hk=>by
  have hi:i < s.currents.length:=by omega
  rw [az.l0,if_pos (by omega),if_pos (by omega),dH (x:=-s.most) (by omega),dH (x:=(i:Int)+1) (by omega)]
  have e:ay s.currents (i:Int) = s.currents[i]:=by
   unfold ay
   simp [hi]
  rw [e,EY,Option.bind_some,EY,Option.bind_some,List.drop_eq_getElem_cons hi,List.any_cons]
  have ih:=ac0 s hm hl m (i+1) K (by omega) (by omega)
  rw [show ((i+1:Nat):Int) = (i:Int)+1 from by omega] at ih
  rw [ih,show U3 s.most s.currents[i] = (!xq s.currents[i].f0.f0 s.currents[i].f0.f1 (-s.most) s.most || !xq s.currents[i].f1.f0 s.currents[i].f1.f1 (-s.most) s.most) from rfl]
  cases xq s.currents[i].f0.f0 s.currents[i].f0.f1 (-s.most) s.most
  ·rfl
  cases xq s.currents[i].f1.f0 s.currents[i].f1.f1 (-s.most) s.most
  ·rfl
  rfl
theorem ai4 (s:oJ) (K:Nat) (hl:s.currents.length≤100000) (hk:s.currents.length+3≤K):az.f K s.nx s.ny s.cell s.slot s.slots s.layers s.most s.shores s.currents = some (BU s):=by
 obtain ⟨K,rfl⟩:∃ k,K = k+2:=⟨K - 2,by omega⟩
 have hj:az.j0 (K+2) true s.nx s.ny s.cell s.slot s.slots s.layers s.most s.shores s.currents = some 2:=by rw [az.j0,if_pos rfl]
 unfold az.f BU U4
 rw [hj]
 unfold ow
 by_cases h1:s.nx < 1
 ·rw [if_pos h1,show decide (1≤s.nx) = false from decide_eq_false (by omega)];rfl
 rw [if_neg h1,show decide (1≤s.nx) = true from decide_eq_true (by omega)]
 by_cases h2:s.nx > 12
 ·rw [if_pos h2,show decide (s.nx≤12) = false from decide_eq_false (by omega)];rfl
 rw [if_neg h2,show decide (s.nx≤12) = true from decide_eq_true (by omega)]
 by_cases h3:s.ny < 1
 ·rw [if_pos h3,show decide (1≤s.ny) = false from decide_eq_false (by omega)];rfl
 rw [if_neg h3,show decide (1≤s.ny) = true from decide_eq_true (by omega)]
 by_cases h4:s.ny > 12
 ·rw [if_pos h4,show decide (s.ny≤12) = false from decide_eq_false (by omega)];rfl
 rw [if_neg h4,show decide (s.ny≤12) = true from decide_eq_true (by omega)]
 by_cases h5:s.cell < 100
 ·rw [if_pos h5,show decide (100≤s.cell) = false from decide_eq_false (by omega)];rfl
 rw [if_neg h5,show decide (100≤s.cell) = true from decide_eq_true (by omega)]
 by_cases h6:s.cell > 65536
 ·rw [if_pos h6,show decide (s.cell≤65536) = false from decide_eq_false (by omega)];rfl
 rw [if_neg h6,show decide (s.cell≤65536) = true from decide_eq_true (by omega)]
 by_cases h7:s.slot < 1
 ·rw [if_pos h7,show decide (1≤s.slot) = false from decide_eq_false (by omega)];rfl
 rw [if_neg h7,show decide (1≤s.slot) = true from decide_eq_true (by omega)]
 by_cases h8:s.slot > 1048576
 ·rw [if_pos h8,show decide (s.slot≤1048576) = false from decide_eq_false (by omega)];rfl
 rw [if_neg h8,show decide (s.slot≤1048576) = true from decide_eq_true (by omega)]
 by_cases h9:s.slots < 1
 ·rw [if_pos h9,show decide (1≤s.slots) = false from decide_eq_false (by omega)];rfl
 rw [if_neg h9,show decide (1≤s.slots) = true from decide_eq_true (by omega)]
 by_cases h10:s.slots > 16
 ·rw [if_pos h10,show decide (s.slots≤16) = false from decide_eq_false (by omega)];rfl
 rw [if_neg h10,show decide (s.slots≤16) = true from decide_eq_true (by omega)]
 by_cases h11:s.layers < 1
 ·rw [if_pos h11,show decide (1≤s.layers) = false from decide_eq_false (by omega)];rfl
 rw [if_neg h11,show decide (1≤s.layers) = true from decide_eq_true (by omega)]
 by_cases h12:s.layers > 3
 ·rw [if_pos h12,show decide (s.layers≤3) = false from decide_eq_false (by omega)];rfl
 rw [if_neg h12,show decide (s.layers≤3) = true from decide_eq_true (by omega)]
 by_cases h13:s.most < 0
 ·rw [if_pos h13,show decide (0≤s.most) = false from decide_eq_false (by omega)];rfl
 rw [if_neg h13,show decide (0≤s.most) = true from decide_eq_true (by omega)]
 by_cases h14:s.most > 5000
 ·rw [show decide (s.most > 5000) = true from decide_eq_true h14,hj,show decide (s.most≤5000) = false from decide_eq_false (by omega)];rfl
 rw [show decide (s.most > 5000) = false from decide_eq_false h14,show decide (s.most≤5000) = true from decide_eq_true (by omega)]
 obtain ⟨n0,n1⟩:=iI (a:=s.nx) (b:=s.ny) (m:=12) (n:=12) (by omega) (by omega) (by omega) (by omega)
 obtain ⟨m0,m1⟩:=iI (a:=s.slots) (b:=s.layers) (m:=16) (n:=3) (by omega) (by omega) (by omega) (by omega)
 obtain ⟨q0,q1⟩:=iI (a:=s.slots*s.layers) (b:=s.nx*s.ny) (m:=48) (n:=144) (by omega) (by omega) (by omega) (by omega)
 obtain ⟨p0,p1⟩:=iI (a:=s.slots*s.layers) (b:=s.nx) (m:=48) (n:=12) (by omega) (by omega) (by omega) (by omega)
 have ea:s.layers*s.slots = s.slots*s.layers:=Int.mul_comm _ _
 have eb:s.slots*s.layers*s.nx*s.ny = s.slots*s.layers*(s.nx*s.ny):=by rw [Int.mul_assoc]
 rw [az.j0,if_neg (by decide),dH (x:=s.nx*s.ny) (by omega)]
 by_cases h15:(s.shores.length:Int) = s.nx*s.ny
 ·rw [if_pos h15,decide_eq_true h15,az.j1,dH (x:=s.slots*s.layers) (by omega),dH (x:=s.slots*s.layers*s.nx) (by omega),eb,dH (x:=s.slots*s.layers*(s.nx*s.ny)) (by omega)]
  by_cases h16:(s.currents.length:Int) = s.slots*s.layers*(s.nx*s.ny)
  ·rw [if_neg (by rw [h16];simp),decide_eq_true h16]
   have:=ac0 s (by omega) hl s.currents.length 0 K (by omega) (by omega)
   rw [show ((0:Nat):Int) = 0 from rfl,List.drop_zero] at this
   rw [this]
   cases s.currents.any (U3 s.most) <;> rfl
  ·rw [if_pos (by simpa using h16),decide_eq_false h16];rfl
 ·rw [if_neg h15,decide_eq_false h15,az.j1,if_pos rfl];rfl
theorem alf (s:oJ):iW.f s.nx s.ny s.cell s.slot s.slots s.layers s.most s.shores s.currents = some (decide ((s.shores.length:Int) > 200) || decide ((s.currents.length:Int) > 3000)):=by
 unfold iW.f
 by_cases h:(s.shores.length:Int) > 200 <;> simp [h]
def avJ (s:oJ) (v:tF) (x:jf) (t:Int):Bool:=!decide ((s.shores.length:Int) > 200) && !decide ((s.currents.length:Int) > 3000) && U4 s && Dt v && Mj x && decide (0≤t) && decide (t≤1073741824)
theorem avK (s:oJ) (v:tF) (x:jf) (t:Int) (K:Nat) (hk:3003≤K):lG.f K s.nx s.ny s.cell s.slot s.slots s.layers s.most s.shores s.currents v.speed v.dive v.use.f0 v.use.f1 v.drift.f0 v.drift.f1 v.reserve x.f0.f0 x.f0.f1 x.f1.f0 x.f1.f1 t = some (avJ s v x t):=by
 unfold lG.f avJ
 rw [alf,Option.bind_some]
 by_cases h1:(s.shores.length:Int) > 200
 ·rw [decide_eq_true h1];rfl
 by_cases h2:(s.currents.length:Int) > 3000
 ·rw [decide_eq_true h2,decide_eq_false h1];rfl
 rw [decide_eq_false h1,decide_eq_false h2,if_neg (by decide),ai4 s K (by omega) (by omega),Option.bind_some,ai3,Option.bind_some,aaa,Option.bind_some]
 unfold BU Q8
 cases U4 s
 ·rfl
 cases Dt v
 ·rfl
 cases Mj x
 ·rfl
 by_cases h3:t ≥ 0
 ·rw [if_pos rfl,if_pos rfl,if_pos rfl,if_pos h3,show decide (0≤t) = true from decide_eq_true h3];rfl
 ·rw [if_pos rfl,if_pos rfl,if_pos rfl,if_neg h3,show decide (0≤t) = false from decide_eq_false h3];rfl
def Ri (x:jf) (px py:Int):Prop:=(x.f0.f0*4000000≤px∧px≤x.f0.f1*4000000)∧(x.f1.f0*4000000≤py∧py≤x.f1.f1*4000000)
theorem wf_u16 {x:Int} (h:(Lit.int .u16 x).wf = true):0≤x∧x≤65535:=by
 unfold Lit.wf at h
 simp only [Bool.and_eq_true,decide_eq_true_eq] at h
 exact ⟨h.1,h.2⟩
theorem Tk {a b m:Int} (h0:-1099511627776≤a) (h1:a≤b) (h2:b≤1099511627776) (hm:0≤m∧m≤65535):∃ p,dz.f a b m = some p∧a≤p∧p≤b:=by
 obtain ⟨p0,p1⟩:=iI (a:=b - a) (b:=m) (m:=2199023255552) (n:=65535) (by omega) (by omega) hm.1 hm.2
 have p2:=Int.mul_le_mul_of_nonneg_left hm.2 (show 0≤b - a by omega)
 unfold dz.f
 rw [dH (x:=b - a) (by omega),dH (x:=m) (by omega),dH (x:=(b - a)*m) (by omega),Int.tdiv_eq_ediv_of_nonneg p0]
 generalize (b - a)*m = P at*
 rw [dH (x:=P / 65535) (by omega),dH (x:=a+P / 65535) (by omega)]
 exact ⟨_,rfl,by omega,by omega⟩
theorem ai5 {l:List Int} (hl:∀ y ∈ l,(Lit.int .u16 y).wf = true) {i:Int} (h0:0≤i):∃ p,fq.f l i = some p∧0≤p∧p≤65535:=by
 unfold fq.f
 by_cases h:i < (l.length:Int)
 ·have hi:i.toNat < l.length:=by omega
  have e:rd l i = l[i.toNat]:=by
   unfold rd
   simp [hi]
  rw [if_pos h,if_pos h0,e]
  exact ⟨_,rfl,wf_u16 (hl _ (List.getElem_mem hi))⟩
 ·rw [if_neg h]
  exact ⟨0,rfl,by omega,by omega⟩
theorem aeO {x:jf} (h0:-1099511627776≤x.f0.f0∧x.f0.f0≤1099511627776) (h1:-1099511627776≤x.f0.f1∧x.f0.f1≤1099511627776) (h2:-1099511627776≤x.f1.f0∧x.f1.f0≤1099511627776) (h3:-1099511627776≤x.f1.f1∧x.f1.f1≤1099511627776) (px py:Int):
 ∃ b,isobathlaw03_holds.f x.f0.f0 x.f0.f1 x.f1.f0 x.f1.f1 px py = some b∧(Ri x px py→b = true):=by
 unfold isobathlaw03_holds.f Ri
 rw [dH (x:=x.f0.f0*4000000) (by omega),dH (x:=x.f0.f1*4000000) (by omega),dH (x:=x.f1.f0*4000000) (by omega),dH (x:=x.f1.f1*4000000) (by omega)]
 split
 ·split
  ·split
   ·exact ⟨_,rfl,fun h=>decide_eq_true h.2.2⟩
   ·rename_i h;exact ⟨_,rfl,fun q=>absurd q.2.1 h⟩
  ·rename_i h;exact ⟨_,rfl,fun q=>absurd q.1.2 h⟩
 ·rename_i h;exact ⟨_,rfl,fun q=>absurd q.1.1 h⟩
theorem ai6 {c most lo hi p:Int} (hc:100≤c) (h0:0≤lo) (h:lo*4000000≤p) (h':p≤hi*4000000) (hm:1≤most):0≤min (p / 4000000 / c) (most - 1)∧(uf c ⟨lo,hi⟩ most).1≤min (p / 4000000 / c) (most - 1)∧min (p / 4000000 / c) (most - 1)≤(uf c ⟨lo,hi⟩ most).2:=by
 have a:=Int.ediv_le_ediv (a:=lo) (b:=p / 4000000) (show 0 < c by omega) (by omega)
 have b:=Int.ediv_le_ediv (a:=p / 4000000) (b:=hi) (show 0 < c by omega) (by omega)
 have d:=Fa (x:=p / 4000000) (c:=c) (by omega) (by omega)
 have f:=(acX c lo).1
 unfold uf
 dsimp only
 omega
theorem aeP {s:oJ} {rb:jf} {px py:Int} (hS:BX s) (h0:0≤rb.f0.f0) (h1:0≤rb.f1.f0) (hp:Ri rb px py):
 (0≤min (px / 4000000 / s.cell) (s.nx - 1)∧min (px / 4000000 / s.cell) (s.nx - 1)≤s.nx - 1)∧(0≤min (py / 4000000 / s.cell) (s.ny - 1)∧min (py / 4000000 / s.cell) (s.ny - 1)≤s.ny - 1)∧min (py / 4000000 / s.cell) (s.ny - 1)*s.nx+min (px / 4000000 / s.cell) (s.nx - 1) ∈ rz s rb:=by
 have a:=ai6 (most:=s.nx) hS.cell.1 h0 hp.1.1 hp.1.2 hS.nx.1
 have b:=ai6 (most:=s.ny) hS.cell.1 h1 hp.2.1 hp.2.2 hS.ny.1
 exact ⟨⟨a.1,by omega⟩,⟨b.1,by omega⟩,Qr.2 ⟨_,_,⟨b.2.1,b.2.2⟩,⟨a.2.1,a.2.2⟩,rfl⟩⟩
theorem aAv {s:oJ} {rb:jf} {layer t now u c:Int} (hd:0 < s.slot) (ht:t≤now∧now < u) (hc:c ∈ rz s rb):rH (yZ s layer (now / s.slot) c) (Q5 s rb layer t u):=by
 have a:=Int.ediv_le_ediv (a:=t) (b:=now) hd (by omega)
 have b:=Int.ediv_le_ediv (a:=now) (b:=u - 1) hd (by omega)
 have hm:yZ s layer (now / s.slot) c ∈ kg s rb layer (t / s.slot) ((u - 1) / s.slot+1 - t / s.slot).toNat:=KZ.2 ⟨(now / s.slot - t / s.slot).toNat,by omega,c,hc,by rw [show t / s.slot+((now / s.slot - t / s.slot).toNat:Int) = now / s.slot from by omega]⟩
 obtain ⟨y,e,h1,_⟩:=Tj (List.ne_nil_of_mem hm)
 unfold Q5
 rw [e]
 exact h1 _ hm
theorem ai7 {a u:ky} {speed dive p px:Int} (hd:0≤dive) (h:a.f0*4000000≤px∧px≤a.f1*4000000) (hp:u.f0≤p∧p≤u.f1):
 (pM dive a speed u).f0*4000000≤px+(4*(speed+1000*p))*dive∧px+(4*(speed+1000*p))*dive≤(pM dive a speed u).f1*4000000:=by
 have h0:(speed+1000*u.f0)*dive≤(speed+1000*p)*dive:=Int.mul_le_mul_of_nonneg_right (by omega) hd
 have h1:(speed+1000*p)*dive≤(speed+1000*u.f1)*dive:=Int.mul_le_mul_of_nonneg_right (by omega) hd
 rw [Int.mul_assoc 4]
 unfold pM Jf upM
 dsimp only
 generalize (speed+1000*u.f0)*dive = X0 at*
 generalize (speed+1000*p)*dive = X at*
 generalize (speed+1000*u.f1)*dive = X1 at*
 omega
theorem aeQ (a b:ky):inI a b≤2:=(ave a b).2
theorem apk {a b:ky} (h:inI a b = 2):b.f0≤a.f0∧a.f1≤b.f1:=by
 unfold inI at h
 split at h
 ·split at h
  ·split at h
   ·assumption
   ·cases h
  ·cases h
 ·cases h
theorem avL {x y:jf} (h:Mt x y = 2):rH x y:=by
 have a:=aeQ x.f0 y.f0
 have b:=aeQ x.f1 y.f1
 unfold Mt at h
 have h1:=apk (a:=x.f0) (b:=y.f0) (by omega)
 have h2:=apk (a:=x.f1) (b:=y.f1) (by omega)
 exact ⟨h1.1,h1.2,h2.1,h2.2⟩
theorem aAw (x y:jf):Mt x y≤2:=by
 have a:=aeQ x.f0 y.f0
 unfold Mt
 omega
theorem Ri.sub {x y:jf} {px py:Int} (h:Ri x px py) (k:rH x y):Ri y px py:=by unfold Ri rH at*;omega
theorem apl {s:oJ} {v:tF} {x:jf} (hS:BX s) (hV:Fy v):rH x (fu s v x):=by
 have h0:=(iI (a:=v.speed+s.most) (b:=v.dive) (m:=10000) (n:=131072) auZ auZ (by have:=hV.dive;omega) hV.dive.2).1
 unfold rH fu
 dsimp only
 generalize (v.speed+s.most)*v.dive = y at*
 omega
theorem aeR {s:oJ} {v:tF} {x:jf} {t:Int} (h:qz s v x t = 0):oV s v x t = 0:=by
 unfold qz at h
 by_cases q:oV s v x t = 0
 ·exact q
 ·rw [if_pos q] at h;exact absurd h q
def UT (s:oJ) (layer T px py:Int):Int:=(T / s.slot*s.layers+layer)*(s.nx*s.ny)+(min (py / 4000000 / s.cell) (s.ny - 1)*s.nx+min (px / 4000000 / s.cell) (s.nx - 1))
theorem avM {s:oJ} {v:tF} {X:jf} {T hd layer px py:Int} (hS:Va s) (hV:Fy v) (hX:xD X) (hD:qz s v X T = 0) (hp:Ri X px py) (hl:0≤layer∧layer < s.layers):
 (0≤px∧px≤4000000000000)∧(0≤py∧py≤4000000000000)∧(0≤T∧T / s.slot < s.slots∧0≤T / s.slot∧T≤16777216)∧
 ((0≤min (px / 4000000 / s.cell) (s.nx - 1)∧min (px / 4000000 / s.cell) (s.nx - 1)≤11)∧(0≤min (py / 4000000 / s.cell) (s.ny - 1)∧min (py / 4000000 / s.cell) (s.ny - 1)≤11))∧
 (0≤UT s layer T px py∧UT s layer T px py < (s.currents.length:Int))∧
 (let c:=ay s.currents (UT s layer T px py);((-5000≤c.f0.f0∧c.f0.f0≤c.f0.f1∧c.f0.f1≤5000)∧(-5000≤c.f1.f0∧c.f1.f0≤c.f1.f1∧c.f1.f1≤5000))∧
  ∀ pu pv:Int,(c.f0.f0≤pu∧pu≤c.f0.f1)→(c.f1.f0≤pv∧pv≤c.f1.f1)→Ri (oP s v X T hd layer) (px+(4*((Cb hd).1*v.speed+1000*pu))*v.dive) (py+(4*((Cb hd).2*v.speed+1000*pv))*v.dive)):=by
 have hr:=aeR hD
 obtain ⟨hi,⟨hT0,hT1⟩,hb0,hb1⟩:=MX hS.n hV hX hr
 have hg:=hp.sub (apl (s:=s) (v:=v) hS.n hV)
 have hct:=aeP hS.n hi.1.1 hi.2.2.1.1 hg
 have hsl:=hS.n.slot
 have hslots:=hS.n.slots
 have hdv:=hV.dive
 have hss:=iI (a:=s.slots) (b:=s.slot) (m:=16) (n:=1048576) (by omega) hslots.2 (by omega) hsl.2
 have hj:T / s.slot < s.slots:=Int.ediv_lt_of_lt_mul (by omega) (by omega)
 have hj0:0≤T / s.slot:=Int.ediv_nonneg hT0 (by omega)
 obtain ⟨⟨k0,k1⟩,⟨m0,m1⟩,hmem⟩:=hct
 have hcu:=aAv (s:=s) (layer:=layer) (now:=T) (t:=T) (u:=T+v.dive) (by omega) ⟨Int.le_refl _,by omega⟩ hmem
 have hnx:=hS.n.nx
 have hny:=hS.n.ny
 have hp':=hp
 unfold Ri at hp'
 have hbx:X.f0.f0≤X.f0.f1∧X.f1.f0≤X.f1.f1:=hX.2
 have hmk:0≤min (py / 4000000 / s.cell) (s.ny - 1)*s.nx+min (px / 4000000 / s.cell) (s.nx - 1)∧min (py / 4000000 / s.cell) (s.ny - 1)*s.nx+min (px / 4000000 / s.cell) (s.nx - 1) < s.nx*s.ny:=by
  generalize min (py / 4000000 / s.cell) (s.ny - 1) = m at*
  generalize min (px / 4000000 / s.cell) (s.nx - 1) = k at*
  have a:0≤m*s.nx:=Int.mul_nonneg m0 (by omega)
  have b:m*s.nx≤(s.ny - 1)*s.nx:=Int.mul_le_mul_of_nonneg_right m1 (by omega)
  rw [Int.sub_mul,Int.one_mul,Int.mul_comm s.ny] at b
  omega
 have hix:=TR (q:=T / s.slot) (l:=layer) (k:=s.nx*s.ny) (c:=min (py / 4000000 / s.cell) (s.ny - 1)*s.nx+min (px / 4000000 / s.cell) (s.nx - 1)) (ll:=s.slots) (kk:=s.layers) hj0 hj hl.1 hl.2 hmk.1 hmk.2
 rw [← hS.cu] at hix
 have hcb:yZ s layer (T / s.slot) (min (py / 4000000 / s.cell) (s.ny - 1)*s.nx+min (px / 4000000 / s.cell) (s.nx - 1)) = ⟨(ay s.currents (UT s layer T px py)).f0,(ay s.currents (UT s layer T px py)).f1⟩:=rfl
 rw [hcb] at hcu
 have hlt:(UT s layer T px py).toNat < s.currents.length:=by
  have:=hix.2
  have:=hix.1
  unfold UT
  omega
 have hrd:ay s.currents (UT s layer T px py) = s.currents[(UT s layer T px py).toNat]:=by
  unfold ay
  rw [List.getD_eq_getElem?_getD,List.getElem?_eq_getElem hlt]
  rfl
 have hb:=hS.cb _ (List.getElem_mem hlt)
 rw [← hrd] at hb
 refine ⟨by omega,by omega,⟨hT0,hj,hj0,by omega⟩,⟨⟨k0,by omega⟩,⟨m0,by omega⟩⟩,hix,⟨⟨by omega,by omega,by omega⟩,⟨by omega,by omega,by omega⟩⟩,?_⟩
 intro pu pv hu hv
 have hz:oP s v X T hd layer = Dp s v X (fu s v X) T hd layer:=by unfold oP;rw [if_pos hD]
 rw [hz]
 unfold rH at hcu
 dsimp only at hcu
 have a:=ai7 (a:=X.f0) (u:=(Q5 s (fu s v X) layer T (T+v.dive)).f0) (speed:=(Cb hd).1*v.speed) (dive:=v.dive) (p:=pu) (px:=px) (by omega) hp.1 (by omega)
 have b:=ai7 (a:=X.f1) (u:=(Q5 s (fu s v X) layer T (T+v.dive)).f1) (speed:=(Cb hd).2*v.speed) (dive:=v.dive) (p:=pv) (px:=py) (by omega) hp.2 (by omega)
 exact ⟨a,b⟩
theorem axS {px D speed pu dive:Int} (hpx:0≤px∧px≤4000000000000) (hD:-1000≤D∧D≤1000) (hs:0≤speed∧speed≤5000) (hp:-5000≤pu∧pu≤5000) (hd:0≤dive∧dive≤131072):
 wrap64 (px+wrap64 (wrap64 (4*wrap64 (wrap64 (D*speed)+wrap64 (1000*pu)))*dive)) = px+(4*(D*speed+1000*pu))*dive:=by
 have a:=qw (a:=D) (b:=speed) (m:=1000) (n:=5000) hD.1 hD.2 hs.1 hs.2 (by omega)
 rw [dH (x:=D*speed) (by omega),dH (x:=1000*pu) (by omega),dH (x:=D*speed+1000*pu) (by omega),dH (x:=4*(D*speed+1000*pu)) (by omega)]
 have b:=qw (a:=4*(D*speed+1000*pu)) (b:=dive) (m:=40000000) (n:=131072) (by omega) (by omega) hd.1 hd.2 (by omega)
 rw [dH (x:=4*(D*speed+1000*pu)*dive) (by omega),dH (by omega)]
theorem a06 {J L layer nx ny mm kk:Int} (hJ:0≤J∧J≤16) (hL:0≤L∧L≤3) (hl:0≤layer∧layer≤3) (hx:0≤nx∧nx≤12) (hy:0≤ny∧ny≤12) (hm:0≤mm∧mm≤11) (hk:0≤kk∧kk≤11):
 wrap64 (wrap64 (wrap64 (wrap64 (wrap64 (wrap64 (J*L)+layer)*nx)*ny)+wrap64 (mm*nx))+kk) = (J*L+layer)*(nx*ny)+(mm*nx+kk):=by
 have a:=iI hJ.1 hJ.2 hL.1 hL.2
 have b:=iI (a:=J*L+layer) (b:=nx) (m:=51) (n:=12) (by omega) (by omega) hx.1 hx.2
 have c:=iI (a:=(J*L+layer)*nx) (b:=ny) (m:=51*12) (n:=12) b.1 b.2 hy.1 hy.2
 have d:=iI (a:=mm) (b:=nx) (m:=11) (n:=12) hm.1 hm.2 hx.1 hx.2
 rw [dH (x:=J*L) (by omega),dH (x:=J*L+layer) (by omega),dH (x:=(J*L+layer)*nx) (by omega),dH (x:=(J*L+layer)*nx*ny) (by omega),dH (x:=mm*nx) (by omega),dH (x:=(J*L+layer)*nx*ny+mm*nx) (by omega),dH (by omega),Int.mul_assoc (J*L+layer),Int.add_assoc]
end Go.Proofs.Ytmhaiihjfgfaoaa.Gl
end
section
namespace Go.Proofs.Ytmhaiihjfgfaoaa.Pr
open Go.RowKit Go.Proofs.YtmhaiihjfgfaoaaW.PrintWords Go.Proofs.YtmhaiihjfgfaoaaW.PrintLast Go.Proofs.YtmhaiihjfgfaoaaW.PrintMore
attribute [local go_sem] gp gq iA iB gu
set_option linter.unusedVariables false
set_option linter.unusedSimpArgs false
end Go.Proofs.Ytmhaiihjfgfaoaa.Pr
end
section
namespace Go.Proofs.Ytmhaiihjfgfaoaa.Gl
open Go.RowKit Go.Proofs.YtmhaiihjfgfaoaaW.PrintWords Go.Proofs.YtmhaiihjfgfaoaaW.PrintLast Go.Proofs.YtmhaiihjfgfaoaaW.PrintMore Go.Proofs.Ytmhaiihjfgfaoaa.Pr
theorem apm (a b:ky) (K:Nat) (hk:2≤K):dC.f K a.f0 a.f1 b.f0 b.f1 = some (inI a b,inE a b):=by
 obtain ⟨K,rfl⟩:∃ z,K = z+2:=⟨K - 2,by omega⟩
 unfold dC.f inI inE
 rw [K3,K3,Option.bind_some,Option.bind_some]
 cases ha:MK a.f0 a.f1 with
 |false=>rfl
 |true =>
  cases hb:MK b.f0 b.f1 with
  |false=>rfl
  |true =>
   have h1:=BS.1 ha
   have h2:=BS.1 hb
   rw [if_pos rfl,dC.j0,if_neg (by decide),if_pos (show (true && true) = true from rfl),if_pos (show (true && true) = true from rfl)]
   by_cases q1:a.f0 ≥ b.f0
   ·rw [if_pos q1,dC.j1]
    by_cases q2:a.f1≤b.f1
    ·rw [if_pos (decide_eq_true q2),if_pos (by omega),if_pos (by omega)]
    ·rw [if_neg (by simp only [decide_eq_true_eq];exact q2),if_neg (by omega)]
     by_cases q3:a.f0 > b.f1
     ·rw [if_pos q3,if_neg (by omega)]
     ·rw [if_neg q3,if_pos (by omega),if_neg (by omega)]
   ·rw [if_neg q1,dC.j1,if_neg (by decide)]
    by_cases q3:a.f1 < b.f0
    ·rw [if_pos q3,if_neg (by omega)]
    ·rw [if_neg q3]
     by_cases q4:a.f0 > b.f1
     ·rw [if_pos q4,if_neg (by omega)]
     ·rw [if_neg q4,if_pos (by omega),if_neg (by omega)]
theorem aeS (x y:jf) (K:Nat) (hk:2≤K):nL.f K x.f0.f0 x.f0.f1 x.f1.f0 x.f1.f1 y.f0.f0 y.f0.f1 y.f1.f0 y.f1.f1 = some (Mt x y):=by
 unfold nL.f Mt
 rw [apm _ _ K hk,Option.bind_some,apm _ _ K hk,Option.bind_some]
 dsimp only
 rw [GR]
end Go.Proofs.Ytmhaiihjfgfaoaa.Gl
end
section
namespace Go.Proofs.Ytmhaiihjfgfaoaa.Pr
open Go.RowKit Go.Proofs.YtmhaiihjfgfaoaaW.PrintWords Go.Proofs.YtmhaiihjfgfaoaaW.PrintLast Go.Proofs.YtmhaiihjfgfaoaaW.PrintMore
attribute [local go_sem] gp gq iA iB gu
set_option linter.unusedVariables false
set_option linter.unusedSimpArgs false
end Go.Proofs.Ytmhaiihjfgfaoaa.Pr
end
