import Derived.Test.YtmhaiihjfgfaoaaProg
import Derived.Below
import Derived.Deep.Draws
import Derived.Deep.AppendLies
import Derived.Maps.AppendAt
import Derived.OwnWalk
import Derived.Laws.BytesArg
import Derived.Laws.MakeOwn
import Derived.Laws.OwnMore
import Derived.Deep.OwnRows
import Derived.Tactics
import Derived.Lib.ConvBytes
import Derived.Laws.Slices
import Derived.WalkKit
import Derived.KernelRfl
import Derived.RowKit3
import Derived.Deep.LoopGhost
import Derived.Deep.QuietTactic
import Derived.BigQuiet
import Derived.WideLaws
import Derived.Deep.DeepCutAuto
import Derived.Deep.CutBlock
import Derived.Deep.RegionHeld3
import Derived.Laws.Rows
import Derived.Lib.AppendStr
import Derived.ArgAppend
import Derived.Laws.IdiomCopy
import Derived.OrdersHeld
import Derived.Laws.BitsLemmas
import Derived.RowKit
import Derived.Test.YtmhaiihjfgfaoaaGnGliderNever1
import Derived.Test.YtmhaiihjfgfaoaaGnGliderNever2
set_option linter.unusedVariables false
open Go.Value renaming int → Z
open Go.IntKind renaming i64 → ab
open Bool renaming true → ac, false → al
section
namespace Go.Proofs.YtmhaiihjfgfaoaaW.PrintMore
open Go.RowKit Go.Proofs.YtmhaiihjfgfaoaaW.PrintWords
namespace Kd
open Go.Proofs.YtmhaiihjfgfaoaaW.PrintWords.Kd
end Kd
namespace Kd
open Go.Proofs.YtmhaiihjfgfaoaaW.PrintWords.Kd
section
variable {α:Type} {d:Kd α} {e base g N:Nat} {ok:Nat→Prop} {W w1:World} {u v:Value} {xs:List α}
end
end Kd
theorem dw (k k':IntKind) (x y:Int):Builtin.max2 (.int k x) (.int k' y) = pure (.int k (if x < y then y else x)):=by simp only [Builtin.max2,gt_iff_lt]
theorem dx (k k':IntKind) (x y:Int):Builtin.min2 (.int k x) (.int k' y) = pure (.int k (if y < x then y else x)):=by simp only [Builtin.min2]
theorem dM (ats:Array TypeId) (ty:TypeId) (a b:Value):Builtin.max_ ats ty #[a,b] = (Builtin.max2 a b >>= fun s=>pure s):=by simp only [Builtin.max_,List.foldlM_cons,List.foldlM_nil]
theorem dN (ats:Array TypeId) (ty:TypeId) (a b:Value):Builtin.min_ ats ty #[a,b] = (Builtin.min2 a b >>= fun s=>pure s):=by simp only [Builtin.min_,List.foldlM_cons,List.foldlM_nil]
theorem dz (ats:Array TypeId) (ty:TypeId) (a b c d:Value):Builtin.max_ ats ty #[a,b,c,d] = (Builtin.max2 a b >>= fun s=>Builtin.max2 s c >>= fun s=>Builtin.max2 s d >>= fun s=>pure s):=by simp only [Builtin.max_,List.foldlM_cons,List.foldlM_nil]
end Go.Proofs.YtmhaiihjfgfaoaaW.PrintMore
namespace Go.Proofs.YtmhaiihjfgfaoaaW.PrintWords
open Go.RowKit
section
variable {P:Program} {ops:Array Oper} {rest:List Oper} {o:Oper} {a:Act} {Q:Exit→Act→World→Prop} {W:World}
theorem aR {f:FuncId} {as_:Array Operand} {ts:Array TypeId} (_ho:o.op = .call { callee:=.value (.func f),args:=as_,argTypes:=ts }) (h:wpList P ops Q (o :: rest) a W):wpList P ops Q (o :: rest) a W:=h
theorem uL {b:Builtin} {xs:Array Operand} {ts:Array TypeId} (_ho:o.op = .call { callee:=.builtin b,args:=xs,argTypes:=ts }) (h:wpList P ops Q (o :: rest) a W):wpList P ops Q (o :: rest) a W:=h
end
def mx (a b:Int):Int:=if a < b then b else a
def mn (a b:Int):Int:=if b < a then b else a
namespace Kd
section
variable {α:Type} {d:Kd α} {e base:Nat} {ok:Nat→Prop} {W w1:World} {v:Value} {xs:List α}
end
section
variable {α:Type} {d:Kd α} {e base g n cap:Nat} {ok oki okp:Nat→Prop} {W:World} {xs:List α} {i:Int} {c:List Value}
end
section
variable {α:Type} {d:Kd α} {e base b b' g N:Nat} {ok ok1:Nat→Prop} {W W2 w1:World} {u v:Value} {xs ys:List α} {S:Nat→Prop}
end
end Kd
end Go.Proofs.YtmhaiihjfgfaoaaW.PrintWords
namespace Go.Proofs.YtmhaiihjfgfaoaaW.PrintWords
open Go.RowKit
namespace Kd
def V {α:Type} (d:Kd α) (_e:Nat) (W:World) (_base:Nat) (ok:Nat→Prop) (v:Value) (xs:List α):Prop:=∃ A c,v = .slice A xs.length c∧xs.length≤c∧F d W ok A xs.length xs
section
variable {α β:Type} {d:Kd α} {e base base' n m c g N' lo hi:Nat} {ok ok' S:Nat→Prop} {w W w1:World} {A:Option Addr} {ad:Addr} {u v v1:Value} {xs:List α}
end
end Kd
end Go.Proofs.YtmhaiihjfgfaoaaW.PrintWords
end
section
set_option linter.unusedVariables false
namespace Go.Proofs.YtmhaiihjfgfaoaaW.PrintMore
open Go.RowKit Go.Proofs.YtmhaiihjfgfaoaaW.PrintWords Go.Proofs.YtmhaiihjfgfaoaaW.PrintLast
theorem bJ {W0 W W1:World} {g:Nat} {o:Obj} (h:ag (W0.heap[g]? = some o)) (hb:Below W.heap.size W W1) (h2:W.heap[g]? = some o:=by (repeat first|(with_reducible first|refine aA ?_ _|refine au ?_|refine aa ?_ _)|refine ah ?_ (ag.out (by assumption)) _);exact ag.out (by assumption)):ag (W1.heap[g]? = some o):=⟨af h2 hb⟩
theorem cK {w W0 W W1:World} (h:ag (Below w.heap.size w W0)) (hb:Below W.heap.size W W1) (h2:Below w.heap.size w W:=by repeat (first|(with_reducible first|exact ag.out (by assumption)|apply ai|apply iW|apply bf|refine JJ ?_ (ag.out (by assumption)))|exact ag.out (by assumption))):ag (Below w.heap.size w W1):=⟨aJ h2 hb⟩
theorem cB {w W0 W:World} {g:Nat} (h:ag (Below w.heap.size w W0)) (hg:g = W.heap.size) (h2:Below w.heap.size w W:=by repeat (first|(with_reducible first|exact ag.out (by assumption)|apply ai|apply iW|apply bf|refine JJ ?_ (ag.out (by assumption)))|exact ag.out (by assumption))):ag (w.heap.size≤g):=⟨by rw [hg];exact gz h2⟩
theorem l6 {W0 W:World} {g g1:Nat} {o:Obj} (h:ag (W0.heap[g]? = some o)) (hg:g1 = W.heap.size) (h2:W.heap[g]? = some o:=by (repeat first|(with_reducible first|refine aA ?_ _|refine au ?_|refine aa ?_ _)|refine ah ?_ (ag.out (by assumption)) _);exact ag.out (by assumption)):ag (g≠g1):=⟨by rw [hg];exact Nat.ne_of_lt (aD h2)⟩
theorem l9 {W0 W:World} {g g1:Nat} {o:Obj} (h:ag (W0.heap[g]? = some o)) (hg:g1 = W.heap.size) (h2:W.heap[g]? = some o:=by (repeat first|(with_reducible first|refine aA ?_ _|refine au ?_|refine aa ?_ _)|refine ah ?_ (ag.out (by assumption)) _);exact ag.out (by assumption)):ag (g1≠g):=⟨by rw [hg];exact Nat.ne_of_gt (aD h2)⟩
theorem eZ {p:Prop} (h:p:=by repeat (first|(with_reducible first|exact ag.out (by assumption)|apply ai|apply iW|apply bf|refine JJ ?_ (ag.out (by assumption)))|exact ag.out (by assumption))):p:=h
theorem o7 {W:World} {x g i j:Nat} {v:Value} {q:Option Value} (h:ag (x≠g)) (e:W.cell? ⟨x,j,none⟩ = q):(W.setCell ⟨g,i,none⟩ v).cell? ⟨x,j,none⟩ = q:=(cell_far (p:=⟨g,_,none⟩) h.out _).trans e
theorem zcm {W:World} {b:Nat} {cs:Array Value} {t:TypeId} (h:ag (W.heap[b]? = some (.cells cs t (0,0)))) (k:Nat) {v:Value} (e:cs[k]? = some v:=by rfl):W.cell? ⟨b,k,none⟩ = some v:=(ae h.out k).trans e
theorem rq {w W:World} {p:Addr} {v:Value} (h:ag (Below w.heap.size w W)) (e:w.cell? p = some v):W.cell? p = some v:=(h.out.cell (World.block_lt_of_cell? w _ e)).trans e
theorem iU {p:Prop} (h:p:=by (repeat first|(with_reducible first|refine aA ?_ _|refine au ?_|refine aa ?_ _)|refine ah ?_ (ag.out (by assumption)) _);exact ag.out (by assumption)):p:=h
theorem xV {α:Type} {d:Kd α} {e base:Nat} {ok:Nat→Prop} {v:Value} {xs:List α} {W0 W W1:World} (h:ag (d.R e W0 base ok v xs)) (hb:Below W.heap.size W W1) (h2:d.R e W base ok v xs:=by (with_reducible repeat (first|apply Kd.nU|apply Kd.nV|apply Kd.mD));exact ag.out (by assumption)):ag (d.R e W1 base ok v xs):=⟨Kd.fZ h2 hb⟩
theorem dG {P:Program} {ops:Array Oper} {Q:Exit→Act→World→Prop} {S:World→Prop} {ds:List Nat} {md:Region.Mode} (i:Nat) (N:Option Tmp) {oi:Oper} {v:Value} {fuel:Nat} {l l':Array Bool} {a:Act} {w:World} (hc:ahD md ops l l' i = true) {a':Act}
 (h:bP P md ops Q S ds fuel l' a' w) (hl:l.setIfInBounds i true = l':=by simp only [List.setIfInBounds_toArray,List.set_cons_zero,List.set_cons_succ];rfl) (hi:ops[i]? = some oi:=by rfl) (hN:oi.dst = N:=by rfl) (hw:Region.wanted oi (yielded ops a.tmps) = true:=by rfl)
 (hy:∀ w,(execOp a.eval oi).run P w = .ok (.value v) w:=by intro w';go_simp;with_reducible rfl) (ha:a.put N v = a':=by simp only [Act.put,List.setIfInBounds_toArray,List.set_cons_zero,List.set_cons_succ,fe,fo];rfl) (hQ:∀ c a w,Q (.panic c) (a.put oi.dst v) w→Q (.panic c) a w:=by exact fun _ _ _ h=>h):bP P md ops Q S ds (fuel+1) l a w:=vw l' hi hN hc hQ (Or.inl ⟨hw,hy⟩) ha h
theorem iy {P:Program} {ops:Array Oper} {Q:Exit→Act→World→Prop} {S:World→Prop} {ds:List Nat} {md:Region.Mode} (i:Nat) (N:Option Tmp) {oi:Oper} {v:Value} {fuel:Nat} {l l':Array Bool} {a:Act} {w:World} (hc:takeB md ops ds l l' i = true) {a':Act}
 (hS:S w) (h:bP P md ops Q S ds fuel l' a' w) (hl:l.setIfInBounds i true = l':=by simp only [List.setIfInBounds_toArray,List.set_cons_zero,List.set_cons_succ];rfl) (hi:ops[i]? = some oi:=by rfl) (hN:oi.dst = N:=by rfl) (hw:Region.wanted oi (yielded ops a.tmps) = true:=by rfl)
 (hy:∀ w,S w→(execOp a.eval oi).run P w = .ok (.value v) w:=by intro w' s_;repeat' obtain ⟨_,s_⟩:=s_;go_simp;with_reducible rfl) (ha:a.put N v = a':=by simp only [Act.put,List.setIfInBounds_toArray,List.set_cons_zero,List.set_cons_succ,fe,fo];rfl) (hQ:∀ c a w,Q (.panic c) (a.put oi.dst v) w→Q (.panic c) a w:=by exact fun _ _ _ h=>h):bP P md ops Q S ds (fuel+1) l a w:=arZ l' hi hN hc hQ (Or.inl ⟨hw,hy⟩) hS ha h
theorem F8 {W:World} {g:Nat} {x0 x1:Value} {T:TypeId} (h:W.heap[g]? = some (.cells #[x0,x1] T (0,0))):W.cell? ⟨g,0,none⟩ = some x0∧W.cell? ⟨g,1,none⟩ = some x1:=⟨(ae h 0).trans rfl,(ae h 1).trans rfl⟩
theorem iq {W:World} {g:Nat} {x0 x1:Value} {T:TypeId} (h:W.heap[g]? = some (.cells #[x0,x1] T (0,0))):W.cell? ⟨g,0,none⟩ = some x0∧W.cell? ⟨g,1,none⟩ = some x1∧W.frozen? ⟨g,0,none⟩ = false∧W.frozen? ⟨g,1,none⟩ = false:=⟨(ae h 0).trans rfl,(ae h 1).trans rfl,aK h 0,aK h 1⟩
theorem mH {W:World} {g:Nat} {x0 x1 x2 x3:Value} {T:TypeId} (h:W.heap[g]? = some (.cells #[x0,x1,x2,x3] T (0,0))):W.cell? ⟨g,0,none⟩ = some x0∧W.cell? ⟨g,1,none⟩ = some x1∧W.cell? ⟨g,2,none⟩ = some x2∧W.cell? ⟨g,3,none⟩ = some x3:=⟨(ae h 0).trans rfl,(ae h 1).trans rfl,(ae h 2).trans rfl,(ae h 3).trans rfl⟩
theorem akE {W:World} {g:Nat} {x0 x1 x2 x3:Value} {T:TypeId} (h:W.heap[g]? = some (.cells #[x0,x1,x2,x3] T (0,0))):W.frozen? ⟨g,0,none⟩ = false∧W.frozen? ⟨g,1,none⟩ = false∧W.frozen? ⟨g,2,none⟩ = false∧W.frozen? ⟨g,3,none⟩ = false:=⟨aK h 0,aK h 1,aK h 2,aK h 3⟩
theorem jr {W:World} {g:Nat} {x0 x1 x2 x3:Value} {T:TypeId} (h:W.heap[g]? = some (.cells #[x0,x1,x2,x3] T (0,0))):W.cell? ⟨g,0,none⟩ = some x0∧W.cell? ⟨g,1,none⟩ = some x1∧W.cell? ⟨g,2,none⟩ = some x2∧W.cell? ⟨g,3,none⟩ = some x3∧W.frozen? ⟨g,0,none⟩ = false∧W.frozen? ⟨g,1,none⟩ = false∧W.frozen? ⟨g,2,none⟩ = false∧W.frozen? ⟨g,3,none⟩ = false:=⟨(ae h 0).trans rfl,(ae h 1).trans rfl,(ae h 2).trans rfl,(ae h 3).trans rfl,aK h 0,aK h 1,aK h 2,aK h 3⟩
theorem Y6 {W:World} {g:Nat} {x0 x1 x2 x3 x4 x5:Value} {T:TypeId} (h:W.heap[g]? = some (.cells #[x0,x1,x2,x3,x4,x5] T (0,0))):W.cell? ⟨g,0,none⟩ = some x0∧W.cell? ⟨g,1,none⟩ = some x1∧W.cell? ⟨g,2,none⟩ = some x2∧W.cell? ⟨g,3,none⟩ = some x3∧W.cell? ⟨g,4,none⟩ = some x4∧W.cell? ⟨g,5,none⟩ = some x5:=⟨(ae h 0).trans rfl,(ae h 1).trans rfl,(ae h 2).trans rfl,(ae h 3).trans rfl,(ae h 4).trans rfl,(ae h 5).trans rfl⟩
theorem EX {W:World} {g:Nat} {x0 x1 x2 x3 x4 x5:Value} {T:TypeId} (h:W.heap[g]? = some (.cells #[x0,x1,x2,x3,x4,x5] T (0,0))):W.cell? ⟨g,0,none⟩ = some x0∧W.cell? ⟨g,1,none⟩ = some x1∧W.cell? ⟨g,2,none⟩ = some x2∧W.cell? ⟨g,3,none⟩ = some x3∧W.cell? ⟨g,4,none⟩ = some x4∧W.cell? ⟨g,5,none⟩ = some x5∧W.frozen? ⟨g,0,none⟩ = false∧W.frozen? ⟨g,1,none⟩ = false∧W.frozen? ⟨g,2,none⟩ = false∧W.frozen? ⟨g,3,none⟩ = false∧W.frozen? ⟨g,4,none⟩ = false∧W.frozen? ⟨g,5,none⟩ = false:=⟨(ae h 0).trans rfl,(ae h 1).trans rfl,(ae h 2).trans rfl,(ae h 3).trans rfl,(ae h 4).trans rfl,(ae h 5).trans rfl,aK h 0,aK h 1,aK h 2,aK h 3,aK h 4,aK h 5⟩
theorem vg {W:World} {g:Nat} {x0 x1 x2 x3 x4 x5 x6:Value} {T:TypeId} (h:W.heap[g]? = some (.cells #[x0,x1,x2,x3,x4,x5,x6] T (0,0))):W.cell? ⟨g,0,none⟩ = some x0∧W.cell? ⟨g,1,none⟩ = some x1∧W.cell? ⟨g,2,none⟩ = some x2∧W.cell? ⟨g,3,none⟩ = some x3∧W.cell? ⟨g,4,none⟩ = some x4∧W.cell? ⟨g,5,none⟩ = some x5∧W.cell? ⟨g,6,none⟩ = some x6:=⟨(ae h 0).trans rfl,(ae h 1).trans rfl,(ae h 2).trans rfl,(ae h 3).trans rfl,(ae h 4).trans rfl,(ae h 5).trans rfl,(ae h 6).trans rfl⟩
theorem iH {W:World} {g:Nat} {x0 x1 x2 x3 x4 x5 x6:Value} {T:TypeId} (h:W.heap[g]? = some (.cells #[x0,x1,x2,x3,x4,x5,x6] T (0,0))):W.cell? ⟨g,0,none⟩ = some x0∧W.cell? ⟨g,1,none⟩ = some x1∧W.cell? ⟨g,2,none⟩ = some x2∧W.cell? ⟨g,3,none⟩ = some x3∧W.cell? ⟨g,4,none⟩ = some x4∧W.cell? ⟨g,5,none⟩ = some x5∧W.cell? ⟨g,6,none⟩ = some x6∧W.frozen? ⟨g,0,none⟩ = false∧W.frozen? ⟨g,1,none⟩ = false∧W.frozen? ⟨g,2,none⟩ = false∧W.frozen? ⟨g,3,none⟩ = false∧W.frozen? ⟨g,4,none⟩ = false∧W.frozen? ⟨g,5,none⟩ = false∧W.frozen? ⟨g,6,none⟩ = false:=⟨(ae h 0).trans rfl,(ae h 1).trans rfl,(ae h 2).trans rfl,(ae h 3).trans rfl,(ae h 4).trans rfl,(ae h 5).trans rfl,(ae h 6).trans rfl,aK h 0,aK h 1,aK h 2,aK h 3,aK h 4,aK h 5,aK h 6⟩
theorem EW {W:World} {g:Nat} {x0 x1 x2 x3 x4 x5 x6 x7 x8:Value} {T:TypeId} (h:W.heap[g]? = some (.cells #[x0,x1,x2,x3,x4,x5,x6,x7,x8] T (0,0))):W.cell? ⟨g,0,none⟩ = some x0∧W.cell? ⟨g,1,none⟩ = some x1∧W.cell? ⟨g,2,none⟩ = some x2∧W.cell? ⟨g,3,none⟩ = some x3∧W.cell? ⟨g,4,none⟩ = some x4∧W.cell? ⟨g,5,none⟩ = some x5∧W.cell? ⟨g,6,none⟩ = some x6∧W.cell? ⟨g,7,none⟩ = some x7∧W.cell? ⟨g,8,none⟩ = some x8:=⟨(ae h 0).trans rfl,(ae h 1).trans rfl,(ae h 2).trans rfl,(ae h 3).trans rfl,(ae h 4).trans rfl,(ae h 5).trans rfl,(ae h 6).trans rfl,(ae h 7).trans rfl,(ae h 8).trans rfl⟩
theorem ji {W:World} {g:Nat} {x0 x1 x2 x3 x4 x5 x6 x7 x8:Value} {T:TypeId} (h:W.heap[g]? = some (.cells #[x0,x1,x2,x3,x4,x5,x6,x7,x8] T (0,0))):W.cell? ⟨g,0,none⟩ = some x0∧W.cell? ⟨g,1,none⟩ = some x1∧W.cell? ⟨g,2,none⟩ = some x2∧W.cell? ⟨g,3,none⟩ = some x3∧W.cell? ⟨g,4,none⟩ = some x4∧W.cell? ⟨g,5,none⟩ = some x5∧W.cell? ⟨g,6,none⟩ = some x6∧W.cell? ⟨g,7,none⟩ = some x7∧W.cell? ⟨g,8,none⟩ = some x8∧W.frozen? ⟨g,0,none⟩ = false∧W.frozen? ⟨g,1,none⟩ = false∧W.frozen? ⟨g,2,none⟩ = false∧W.frozen? ⟨g,3,none⟩ = false∧W.frozen? ⟨g,4,none⟩ = false∧W.frozen? ⟨g,5,none⟩ = false∧W.frozen? ⟨g,6,none⟩ = false∧W.frozen? ⟨g,7,none⟩ = false∧W.frozen? ⟨g,8,none⟩ = false:=⟨(ae h 0).trans rfl,(ae h 1).trans rfl,(ae h 2).trans rfl,(ae h 3).trans rfl,(ae h 4).trans rfl,(ae h 5).trans rfl,(ae h 6).trans rfl,(ae h 7).trans rfl,(ae h 8).trans rfl,aK h 0,aK h 1,aK h 2,aK h 3,aK h 4,aK h 5,aK h 6,aK h 7,aK h 8⟩
theorem Cr {W:World} {g:Nat} {x0 x1 x2 x3 x4 x5 x6 x7 x8:Value} {T:TypeId} {q:Prop} (h:W.heap[g]? = some (.cells #[x0,x1,x2,x3,x4,x5,x6,x7,x8] T (0,0))) (r:q):W.cell? ⟨g,0,none⟩ = some x0∧W.cell? ⟨g,1,none⟩ = some x1∧W.cell? ⟨g,2,none⟩ = some x2∧W.cell? ⟨g,3,none⟩ = some x3∧W.cell? ⟨g,4,none⟩ = some x4∧W.cell? ⟨g,5,none⟩ = some x5∧W.cell? ⟨g,6,none⟩ = some x6∧W.cell? ⟨g,7,none⟩ = some x7∧W.cell? ⟨g,8,none⟩ = some x8∧q:=⟨(ae h 0).trans rfl,(ae h 1).trans rfl,(ae h 2).trans rfl,(ae h 3).trans rfl,(ae h 4).trans rfl,(ae h 5).trans rfl,(ae h 6).trans rfl,(ae h 7).trans rfl,(ae h 8).trans rfl,r⟩
theorem zq0 {p:Prop} (h:p:=by rw [← yh _ _ 1 (by omega)];exact hc 1 _ rfl):p:=h
theorem gu {p:Prop} (h:p:=by first|(go_simp;done)|(go_simp;rfl)):p:=h
theorem mf {p:Prop} (h:p:=by first|rfl|(simp [ic,ig] <;> rfl)|(simp [*,ic,ig] <;> rfl)):p:=h
theorem sG {p:Prop} (h:p:=by first|rfl|(simp;done)|(simp [*];done)):p:=h
theorem zq4 {p:Prop} (h:p:=by repeat (first|exact uQ.refl _|apply uQ.step)):p:=h
theorem aT {p:Prop} (h:p:=by kernel_rfl):p:=h
theorem jQ {p:Prop} (h:p:=by (try simp only [List.map_toArray,List.map_cons,List.map_nil]);first|done|rfl|(simp only [List.length_drop,List.length_take];rfl)):p:=h
theorem X7 {p:Prop} (h:p:=by first|omega|exact Nat.le_refl _):p:=h
theorem zx {p:Prop} (h:p:=by first|(with_reducible assumption)|assumption):p:=h
theorem zq9 {p:Prop} (h:p:=by show Act.put _ (some 116) _ = _;simp only [Act.put,List.setIfInBounds_toArray,List.set_cons_zero,List.set_cons_succ,fe,fo];rfl):p:=h
theorem avs {p:Prop} (h:p:=by show Act.put _ (some 130) _ = _;simp only [Act.put,List.setIfInBounds_toArray,List.set_cons_zero,List.set_cons_succ,fe,fo];rfl):p:=h
theorem YA {p:Prop} (h:p:=by have:=HK1.out;omega):p:=h
theorem ajZ {p:Prop} (h:p:=by first|rfl|(simp [ic,ig] <;> rfl)|(simp only [← FU];first|rfl|(simp [ic,ig] <;> rfl))|(simp [*,ic,ig] <;> rfl)):p:=h
theorem avt {p:Prop} (h:p:=by (with_reducible repeat (first|apply Kd.nU|apply Kd.nV|apply Kd.mD));exact rM.out):p:=h
theorem BU {p:Prop} (h:p:=by rw [HR.out];rfl):p:=h
theorem Ro {p:Prop} (h:p:=by repeat (first|exact Below.refl _ _|apply ai|apply bf|apply iW)):p:=h
theorem RI {p:Prop} (h:p:=by have h_:=bB w (.cells #[Z ab s.nx,Z ab s.ny,Z ab s.cell,Z ab s.slot,Z ab s.slots,Z ab s.layers,Z ab s.most,.slice A7 s.shores.length c7,.slice A8 s.currents.length c8] 25);first|exact h_|(simp only [World.size_alloc] at h_;exact h_)):p:=h
theorem jD {p:Prop} (h:p:=by rw [HZ.out];rfl):p:=h
theorem arW {p:Prop} (h:p:=by have h_:=bB w (.cells #[Z ab a.f0,Z ab a.f1] 27);first|exact h_|(simp only [World.size_alloc] at h_;exact h_)):p:=h
theorem arX {p:Prop} (h:p:=by show Act.put _ (some 9) _ = _;simp only [Act.put,List.setIfInBounds_toArray,List.set_cons_zero,List.set_cons_succ,fe,fo];rfl):p:=h
theorem ET {p:Prop} (h:p:=by simp only [List.map_toArray,List.map_cons,List.map_nil];rfl):p:=h
theorem aoM {p:Prop} (h:p:=by have h_:=bB w (.cells #[.pointer (some ⟨b,0,none⟩)] 104);first|exact h_|(simp only [World.size_alloc] at h_;exact h_)):p:=h
theorem aoN {p:Prop} (h:p:=by have h_:=bB (w.alloc (.cells #[.pointer (some ⟨b,0,none⟩)] 104)) (.cells #[Z ab x.f0.f0,Z ab x.f0.f1,Z ab x.f1.f0,Z ab x.f1.f1] 31);first|exact h_|(simp only [World.size_alloc] at h_;exact h_)):p:=h
theorem afP {p:Prop} (h:p:=by show Act.put _ (some 16) _ = _;simp only [Act.put,List.setIfInBounds_toArray,List.set_cons_zero,List.set_cons_succ,fe,fo];rfl):p:=h
theorem afR {p:Prop} (h:p:=by have h_:=bB w (.cells #[Z ab x.f0.f0,Z ab x.f0.f1,Z ab x.f1.f0,Z ab x.f1.f1] 31);first|exact h_|(simp only [World.size_alloc] at h_;exact h_)):p:=h
theorem abq {p:Prop} (h:p:=by rw [HV2.out,HZ.out];rfl):p:=h
theorem aq3 {p:Prop} (h:p:=by show Act.put _ (some 13) _ = _;simp only [Act.put,List.setIfInBounds_toArray,List.set_cons_zero,List.set_cons_succ,fe,fo];rfl):p:=h
theorem aq4 {p:Prop} (h:p:=by show Act.put _ (some 11) _ = _;simp only [Act.put,List.setIfInBounds_toArray,List.set_cons_zero,List.set_cons_succ,fe,fo];rfl):p:=h
theorem akI {p:Prop} (h:p:=by first|(simp only [zO,Act.put,List.setIfInBounds_toArray,List.set_cons_zero,List.set_cons_succ];done)|(simp only [zO,Act.put,List.setIfInBounds_toArray,List.set_cons_zero,List.set_cons_succ];rfl)):p:=h
theorem aq5 {p:Prop} (h:p:=by show Act.put _ (some 29) _ = _;simp only [Act.put,List.setIfInBounds_toArray,List.set_cons_zero,List.set_cons_succ,fe,fo];rfl):p:=h
theorem aq6 {p:Prop} (h:p:=by show Act.put _ (some 12) _ = _;simp only [Act.put,List.setIfInBounds_toArray,List.set_cons_zero,List.set_cons_succ,fe,fo];rfl):p:=h
theorem aq7 {p:Prop} (h:p:=by show Act.put _ (some 43) _ = _;simp only [Act.put,List.setIfInBounds_toArray,List.set_cons_zero,List.set_cons_succ,fe,fo];rfl):p:=h
theorem aq9 {p:Prop} (h:p:=by have h_:=bB W2 (.cells #[Z ab G.f0.f0,Z ab G.f0.f1,Z ab G.f1.f0,Z ab G.f1.f1] 31);first|exact h_|(simp only [World.size_alloc] at h_;exact h_)):p:=h
theorem ao2 {p:Prop} (h:p:=by exact (oM.c2 (show Kd.M k27 _ _ _ (⟨ax,av⟩:gm) [Z ab ax,Z ab av] from (rY _ _ _ (⟨ax,av⟩:gm))) (oM.c2 (show Kd.M k27 _ _ _ (⟨aH,aG⟩:gm) [Z ab aH,Z ab aG] from (rY _ _ _ (⟨aH,aG⟩:gm))) (oM.none _ _)))):p:=h
theorem arh {p:Prop} (h:p:=by show Act.put _ (some 20) _ = _;simp only [Act.put,List.setIfInBounds_toArray,List.set_cons_zero,List.set_cons_succ,fe,fo];rfl):p:=h
theorem ao3 {p:Prop} (h:p:=by show Act.put _ (some 24) _ = _;simp only [Act.put,List.setIfInBounds_toArray,List.set_cons_zero,List.set_cons_succ,fe,fo];rfl):p:=h
theorem ark {p:Prop} (h:p:=by show Act.put _ (some 28) _ = _;simp only [Act.put,List.setIfInBounds_toArray,List.set_cons_zero,List.set_cons_succ,fe,fo];rfl):p:=h
theorem arl {p:Prop} (h:p:=by first|rfl|(simp [ic,ig] <;> rfl)|(simp only [← TM,← TN,← F9];first|rfl|(simp [ic,ig] <;> rfl))|(simp [*,ic,ig] <;> rfl)):p:=h
theorem TS {p:Prop} (h:p:=by have h_:=bB (w.alloc (.cells #[Z ab s.nx,Z ab s.ny,Z ab s.cell,Z ab s.slot,Z ab s.slots,Z ab s.layers,Z ab s.most,.slice A7 s.shores.length c7,.slice A8 s.currents.length c8] 25)) (.cells #[Z ab v.speed,Z ab v.dive,Z ab v.use.f0,Z ab v.use.f1,Z ab v.drift.f0,Z ab v.drift.f1,Z ab v.reserve] 29);first|exact h_|(simp only [World.size_alloc] at h_;exact h_)):p:=h
theorem aby {p:Prop} (h:p:=by have h_:=bB ((w.alloc (.cells #[Z ab s.nx,Z ab s.ny,Z ab s.cell,Z ab s.slot,Z ab s.slots,Z ab s.layers,Z ab s.most,.slice A7 s.shores.length c7,.slice A8 s.currents.length c8] 25)).alloc (.cells #[Z ab v.speed,Z ab v.dive,Z ab v.use.f0,Z ab v.use.f1,Z ab v.drift.f0,Z ab v.drift.f1,Z ab v.reserve] 29)) (.cells #[Z ab x.f0.f0,Z ab x.f0.f1,Z ab x.f1.f0,Z ab x.f1.f1] 31);first|exact h_|(simp only [World.size_alloc] at h_;exact h_)):p:=h
theorem apo {p:Prop} (h:p:=by show Act.put _ (some 14) _ = _;simp only [Act.put,List.setIfInBounds_toArray,List.set_cons_zero,List.set_cons_succ,fe,fo];rfl):p:=h
theorem apq {p:Prop} (h:p:=by show Act.put _ (some 3) _ = _;simp only [Act.put,List.setIfInBounds_toArray,List.set_cons_zero,List.set_cons_succ,fe,fo];rfl):p:=h
theorem apr {p:Prop} (h:p:=by simp only [zO,Act.put,List.setIfInBounds_toArray,List.set_cons_zero,List.set_cons_succ]):p:=h
theorem aps {p:Prop} (h:p:=by (with_reducible repeat (first|apply Kd.nU|apply Kd.nV|apply Kd.mD));exact iE.out):p:=h
theorem apt {p:Prop} (h:p:=by (with_reducible repeat (first|apply Kd.nU|apply Kd.nV|apply Kd.mD));exact iF.out):p:=h
theorem arB {p:Prop} (h:p:=by have h_:=bB wr (.cells #[Z ab d.f0,Z ab d.f1] 33);first|exact h_|(simp only [World.size_alloc] at h_;exact h_)):p:=h
theorem Ut {p:Prop} (h:p:=by rw [HZ.out];exact Kd.R4 _ _ _ _ _):p:=h
theorem ak3 {p:Prop} (h:p:=by exact (oM.c2 (show Kd.M k27 _ _ _ (⟨ax,av⟩:gm) [Z ab ax,Z ab av] from (rY _ _ _ (⟨ax,av⟩:gm))) (oM.c2 (show Kd.M k27 _ _ _ (⟨bq,bz⟩:gm) [Z ab bq,Z ab bz] from (rY _ _ _ (⟨bq,bz⟩:gm))) (oM.none _ _)))):p:=h
theorem apw {p:Prop} (h:p:=by (with_reducible repeat (first|apply Kd.nU|apply Kd.nV|apply Kd.mD));exact jw.out):p:=h
theorem ar1 {p:Prop} (h:p:=by have h_:=bB W2 (.cells #[.pointer (some ⟨g,0,none⟩)] 104);first|exact h_|(simp only [World.size_alloc] at h_;exact h_)):p:=h
theorem ast {p:Prop} (h:p:=by have h_:=bB (((w.alloc (.cells #[Z ab s.nx,Z ab s.ny,Z ab s.cell,Z ab s.slot,Z ab s.slots,Z ab s.layers,Z ab s.most,.slice A7 s.shores.length c7,.slice A8 s.currents.length c8] 25)).alloc (.cells #[Z ab v.speed,Z ab v.dive,Z ab v.use.f0,Z ab v.use.f1,Z ab v.drift.f0,Z ab v.drift.f1,Z ab v.reserve] 29)).alloc (.cells #[Z ab x.f0.f0,Z ab x.f0.f1,Z ab x.f1.f0,Z ab x.f1.f1] 31)) (.cells #[Z ab ev.f0,Z ab ev.f1] 27);first|exact h_|(simp only [World.size_alloc] at h_;exact h_)):p:=h
theorem asu {p:Prop} (h:p:=by have h_:=bB ((((w.alloc (.cells #[Z ab s.nx,Z ab s.ny,Z ab s.cell,Z ab s.slot,Z ab s.slots,Z ab s.layers,Z ab s.most,.slice A7 s.shores.length c7,.slice A8 s.currents.length c8] 25)).alloc (.cells #[Z ab v.speed,Z ab v.dive,Z ab v.use.f0,Z ab v.use.f1,Z ab v.drift.f0,Z ab v.drift.f1,Z ab v.reserve] 29)).alloc (.cells #[Z ab x.f0.f0,Z ab x.f0.f1,Z ab x.f1.f0,Z ab x.f1.f1] 31)).alloc (.cells #[Z ab ev.f0,Z ab ev.f1] 27)) (.cells #[Z ab p.f0.f0.f0,Z ab p.f0.f0.f1,Z ab p.f0.f1.f0,Z ab p.f0.f1.f1,Z ab p.f1,Z ab p.f2] 81);first|exact h_|(simp only [World.size_alloc] at h_;exact h_)):p:=h
theorem asw {p:Prop} (h:p:=by have h_:=bB V (.cells #[Z ab x.f0.f0,Z ab x.f0.f1,Z ab x.f1.f0,Z ab x.f1.f1] 31);first|exact h_|(simp only [World.size_alloc] at h_;exact h_)):p:=h
theorem asx {p:Prop} (h:p:=by have h_:=bB (V.alloc (.cells #[Z ab x.f0.f0,Z ab x.f0.f1,Z ab x.f1.f0,Z ab x.f1.f1] 31)) (.cells #[Z ab t] 2);first|exact h_|(simp only [World.size_alloc] at h_;exact h_)):p:=h
theorem asy {p:Prop} (h:p:=by have h_:=bB ((V.alloc (.cells #[Z ab x.f0.f0,Z ab x.f0.f1,Z ab x.f1.f0,Z ab x.f1.f1] 31)).alloc (.cells #[Z ab t] 2)) (.cells #[Z ab left] 2);first|exact h_|(simp only [World.size_alloc] at h_;exact h_)):p:=h
theorem asz {p:Prop} (h:p:=by have h_:=bB (((V.alloc (.cells #[Z ab x.f0.f0,Z ab x.f0.f1,Z ab x.f1.f0,Z ab x.f1.f1] 31)).alloc (.cells #[Z ab t] 2)).alloc (.cells #[Z ab left] 2)) (.cells #[Z ab cost] 2);first|exact h_|(simp only [World.size_alloc] at h_;exact h_)):p:=h
theorem asA {p:Prop} (h:p:=by have h_:=bB ((((V.alloc (.cells #[Z ab x.f0.f0,Z ab x.f0.f1,Z ab x.f1.f0,Z ab x.f1.f1] 31)).alloc (.cells #[Z ab t] 2)).alloc (.cells #[Z ab left] 2)).alloc (.cells #[Z ab cost] 2)) (.cells #[(Value.slice Ap plan.length cp)] 49);first|exact h_|(simp only [World.size_alloc] at h_;exact h_)):p:=h
theorem asB {p:Prop} (h:p:=by have h_:=bB (((((V.alloc (.cells #[Z ab x.f0.f0,Z ab x.f0.f1,Z ab x.f1.f0,Z ab x.f1.f1] 31)).alloc (.cells #[Z ab t] 2)).alloc (.cells #[Z ab left] 2)).alloc (.cells #[Z ab cost] 2)).alloc (.cells #[(Value.slice Ap plan.length cp)] 49)) (.cells #[.bool there] 4);first|exact h_|(simp only [World.size_alloc] at h_;exact h_)):p:=h
theorem asE {p:Prop} (h:p:=by show Act.put _ (some 39) _ = _;simp only [Act.put,List.setIfInBounds_toArray,List.set_cons_zero,List.set_cons_succ,fe,fo];rfl):p:=h
theorem asG {p:Prop} (h:p:=by rw [HZ.out];exact ⟨az (ah (p:=⟨gB,0,none⟩) mL hLB _) 0 _ rfl,ah (p:=⟨gL,0,none⟩) (az mBe 0 _ rfl) (fun e=>hLB e.symm) _,bN.far (q:=⟨gL,0,none⟩) (bN.far (q:=⟨gB,0,none⟩) hcl hcB _) hcL _⟩):p:=h
theorem asO {p:Prop} (h:p:=by show Act.put _ (some 103) _ = _;simp only [Act.put,List.setIfInBounds_toArray,List.set_cons_zero,List.set_cons_succ,fe,fo];rfl):p:=h
theorem asP {p:Prop} (h:p:=by show Act.put _ (some 104) _ = _;simp only [Act.put,List.setIfInBounds_toArray,List.set_cons_zero,List.set_cons_succ,fe,fo];rfl):p:=h
theorem asQ {p:Prop} (h:p:=by show Act.put _ (some 111) _ = _;simp only [Act.put,List.setIfInBounds_toArray,List.set_cons_zero,List.set_cons_succ,fe,fo];rfl):p:=h
theorem asS {p:Prop} (h:p:=by have h_:=bB Wb (.cells #[Z ab Y.f0.f0,Z ab Y.f0.f1,Z ab Y.f1.f0,Z ab Y.f1.f1] 31);first|exact h_|(simp only [World.size_alloc] at h_;exact h_)):p:=h
theorem EY {p:Prop} (h:p:=by rw [List.length_append,List.length_singleton];omega):p:=h
theorem agk {p:Prop} (h:p:=by rw [HR.out];exact Kd.R4 _ _ _ _ _):p:=h
theorem acH {p:Prop} (h:p:=by repeat (first|exact mB|apply ai|apply bf|apply iW)):p:=h
end Go.Proofs.YtmhaiihjfgfaoaaW.PrintMore
end
section
namespace Go.Proofs.Ytmhaiihjfgfaoaa.Pr
open Go.RowKit Go.Proofs.YtmhaiihjfgfaoaaW.PrintWords Go.Proofs.YtmhaiihjfgfaoaaW.PrintLast Go.Proofs.YtmhaiihjfgfaoaaW.PrintMore
attribute [local go_sem] dw dx dM dN dz
set_option linter.unusedVariables false
set_option linter.unusedSimpArgs false
def avu:Option Int→Value
 |none=>.nilIface
 |some c=>.iface 0 (Z ab c)
theorem ic:avu none = .nilIface:=rfl
theorem ig (c:Int):avu (some c) = .iface 0 (Z ab c):=rfl
theorem avv:(Try.prog.info? 4).map (fun i=>(i.zero,i.size,i.bytes)) = some (some (.bool false),1,1):=by kernel_rfl
theorem apK:(Try.prog.info? 27).map (fun i=>(i.zero,i.size,i.bytes)) = some (some (.agg #[(Z ab 0),(Z ab 0)]),2,16):=by kernel_rfl
theorem ahn:(Try.prog.info? 31).map (fun i=>(i.zero,i.size,i.bytes)) = some (some (.agg #[(Z ab 0),(Z ab 0),(Z ab 0),(Z ab 0)]),4,32):=by kernel_rfl
theorem abU:(Try.prog.info? 33).map (fun i=>(i.zero,i.size,i.bytes)) = some (some (.agg #[(Z ab 0),(Z ab 0)]),2,16):=by kernel_rfl
theorem aqg:(Try.prog.info? 40).map (fun i=>(i.zero,i.size,i.bytes)) = some (some (.agg #[(Z ab 0),(Z ab 0),(Z ab 0),(Z ab 0)]),4,32):=by kernel_rfl
structure gm where
 f0:Int
 f1:Int
def z27:gm:=⟨(0:Int),(0:Int)⟩
def k27:Kd gm:=Kd.iso (Kd.pair (Kd.int .i64) (Kd.int .i64)) (fun x:gm=>(x.f0,x.f1))
theorem uh {w:World} {x:gm} {cs:List Value} (h:k27.K w x cs):cs = [Z ab x.f0,Z ab x.f1]:=by
 obtain ⟨_,_,rfl,rfl,rfl⟩:=h
 exact rfl
theorem rY (w:World) (base:Nat) (ok:Nat→Prop) (x:gm):k27.M w base ok x [Z ab x.f0,Z ab x.f1]:=⟨[Z ab x.f0],[Z ab x.f1],rfl,rfl,rfl⟩
def lq (xs:List gm) (i:Int):gm:=xs.getD i.toNat z27
theorem Xp {w:World} {A:Option Addr} {n:Nat} {xs:List gm} (h:Kd.C k27 w A n xs) (i:Int) (h0:0≤i) (h1:i < n):∃ ad,A = some ad∧w.cell? (ad.add (i.toNat*2)) = some (Z ab (lq xs i).f0)∧w.cell? ⟨(ad.add (i.toNat*2)).block,(ad.add (i.toNat*2)).off+1,none⟩ = some (Z ab (lq xs i).f1):=by
 obtain ⟨ad,c,e,_,hK,hc0⟩:=Kd.ac7 h z27 i h0 h1
 have hc:∀ j u,c[j]? = some u→w.cell? (ad.add (i.toNat*2+j)) = some u:=hc0
 obtain rfl:=uh hK
 exact ⟨ad,e,hc 0 _ rfl,zq0⟩
structure qW where
 f0:gm
 f1:gm
def z40:qW:=⟨z27,z27⟩
def Cm:Kd qW:=Kd.iso (Kd.pair k27 k27) (fun x:qW=>(x.f0,x.f1))
theorem aj0 {w:World} {x:qW} {cs:List Value} (h:Cm.K w x cs):cs = [Z ab x.f0.f0,Z ab x.f0.f1,Z ab x.f1.f0,Z ab x.f1.f1]:=by
 obtain ⟨_,_,rfl,s0,s2⟩:=h
 obtain rfl:=uh s0
 obtain rfl:=uh s2
 exact rfl
theorem amA (w:World) (base:Nat) (ok:Nat→Prop) (x:qW):Cm.M w base ok x [Z ab x.f0.f0,Z ab x.f0.f1,Z ab x.f1.f0,Z ab x.f1.f1]:=⟨[Z ab x.f0.f0,Z ab x.f0.f1],[Z ab x.f1.f0,Z ab x.f1.f1],rfl,(rY w base ok x.f0),(rY w base ok x.f1)⟩
def bQ (xs:List qW) (i:Int):qW:=xs.getD i.toNat z40
theorem Fq {w:World} {A:Option Addr} {n:Nat} {xs:List qW} (h:Kd.C Cm w A n xs) (i:Int) (h0:0≤i) (h1:i < n):∃ ad,A = some ad∧w.cell? (ad.add (i.toNat*4)) = some (Z ab (bQ xs i).f0.f0)∧w.cell? ⟨(ad.add (i.toNat*4)).block,(ad.add (i.toNat*4)).off+1,none⟩ = some (Z ab (bQ xs i).f0.f1)∧w.cell? ⟨(ad.add (i.toNat*4)).block,(ad.add (i.toNat*4)).off+2,none⟩ = some (Z ab (bQ xs i).f1.f0)∧w.cell? ⟨(ad.add (i.toNat*4)).block,(ad.add (i.toNat*4)).off+3,none⟩ = some (Z ab (bQ xs i).f1.f1):=by
 obtain ⟨ad,c,e,_,hK,hc0⟩:=Kd.ac7 h z40 i h0 h1
 have hc:∀ j u,c[j]? = some u→w.cell? (ad.add (i.toNat*4+j)) = some u:=hc0
 obtain rfl:=aj0 hK
 exact ⟨ad,e,hc 0 _ rfl,zq0,by rw [← yh _ _ 2 (by omega)];exact hc 2 _ rfl,by rw [← yh _ _ 3 (by omega)];exact hc 3 _ rfl⟩
structure S25 where
 f0:Int
 f1:Int
 f2:Int
 f3:Int
 f4:Int
 f5:Int
 f6:Int
 f7:(List Bool)
 f8:(List qW)
def k25:Kd S25:=Kd.iso (Kd.pair (Kd.int .i64) (Kd.pair (Kd.int .i64) (Kd.pair (Kd.int .i64) (Kd.pair (Kd.int .i64) (Kd.pair (Kd.int .i64) (Kd.pair (Kd.int .i64) (Kd.pair (Kd.int .i64) (Kd.pair (Kd.slice 4 Kd.bool) (Kd.slice 40 Cm))))))))) (fun x:S25=>(x.f0,x.f1,x.f2,x.f3,x.f4,x.f5,x.f6,x.f7,x.f8))
theorem aj1 {w:World} {x:S25} {cs:List Value} (h:k25.K w x cs):∃ A7 c7 A8 c8,cs = [Z ab x.f0,Z ab x.f1,Z ab x.f2,Z ab x.f3,Z ab x.f4,Z ab x.f5,Z ab x.f6,.slice A7 x.f7.length c7,.slice A8 x.f8.length c8]∧x.f7.length≤c7∧Kd.bool.C w A7 x.f7.length x.f7∧x.f8.length≤c8∧Cm.C w A8 x.f8.length x.f8:=by
 obtain ⟨_,_,rfl,rfl,⟨_,_,rfl,rfl,⟨_,_,rfl,rfl,⟨_,_,rfl,rfl,⟨_,_,rfl,rfl,⟨_,_,rfl,rfl,⟨_,_,rfl,rfl,⟨_,_,rfl,⟨A7,c7,rfl,l7,g7⟩,⟨A8,c8,rfl,l8,g8⟩⟩⟩⟩⟩⟩⟩⟩⟩:=h
 exact ⟨A7,c7,A8,c8,rfl,l7,g7,l8,g8⟩
structure eQ where
 f0:Int
 f1:Int
def z33:eQ:=⟨(0:Int),(0:Int)⟩
def TP:Kd eQ:=Kd.iso (Kd.pair (Kd.int .i64) (Kd.int .i64)) (fun x:eQ=>(x.f0,x.f1))
theorem aj2 {w:World} {x:eQ} {cs:List Value} (h:TP.K w x cs):cs = [Z ab x.f0,Z ab x.f1]:=by
 obtain ⟨_,_,rfl,rfl,rfl⟩:=h
 exact rfl
theorem apb (w:World) (x:eQ):TP.K w x [Z ab x.f0,Z ab x.f1]:=⟨[Z ab x.f0],[Z ab x.f1],rfl,rfl,rfl⟩
theorem alI (w:World) (base:Nat) (ok:Nat→Prop) (x:eQ):TP.M w base ok x [Z ab x.f0,Z ab x.f1]:=⟨[Z ab x.f0],[Z ab x.f1],rfl,rfl,rfl⟩
def iO (xs:List eQ) (i:Int):eQ:=xs.getD i.toNat z33
theorem Ci {w:World} {A:Option Addr} {n:Nat} {xs:List eQ} (h:Kd.C TP w A n xs) (i:Int) (h0:0≤i) (h1:i < n):∃ ad,A = some ad∧w.cell? (ad.add (i.toNat*2)) = some (Z ab (iO xs i).f0)∧w.cell? ⟨(ad.add (i.toNat*2)).block,(ad.add (i.toNat*2)).off+1,none⟩ = some (Z ab (iO xs i).f1):=by
 obtain ⟨ad,c,e,_,hK,hc0⟩:=Kd.ac7 h z33 i h0 h1
 have hc:∀ j u,c[j]? = some u→w.cell? (ad.add (i.toNat*2+j)) = some u:=hc0
 obtain rfl:=aj2 hK
 exact ⟨ad,e,hc 0 _ rfl,zq0⟩
structure S29 where
 f0:Int
 f1:Int
 f2:gm
 f3:gm
 f4:Int
def k29:Kd S29:=Kd.iso (Kd.pair (Kd.int .i64) (Kd.pair (Kd.int .i64) (Kd.pair k27 (Kd.pair k27 (Kd.int .i64))))) (fun x:S29=>(x.f0,x.f1,x.f2,x.f3,x.f4))
theorem aj3 {w:World} {x:S29} {cs:List Value} (h:k29.K w x cs):cs = [Z ab x.f0,Z ab x.f1,Z ab x.f2.f0,Z ab x.f2.f1,Z ab x.f3.f0,Z ab x.f3.f1,Z ab x.f4]:=by
 obtain ⟨_,_,rfl,rfl,⟨_,_,rfl,rfl,⟨_,_,rfl,s2,⟨_,_,rfl,s4,rfl⟩⟩⟩⟩:=h
 obtain rfl:=uh s2
 obtain rfl:=uh s4
 exact rfl
structure cZ where
 f0:gm
 f1:gm
def z31:cZ:=⟨z27,z27⟩
def Qe:Kd cZ:=Kd.iso (Kd.pair k27 k27) (fun x:cZ=>(x.f0,x.f1))
theorem Rp {w:World} {x:cZ} {cs:List Value} (h:Qe.K w x cs):cs = [Z ab x.f0.f0,Z ab x.f0.f1,Z ab x.f1.f0,Z ab x.f1.f1]:=by
 obtain ⟨_,_,rfl,s0,s2⟩:=h
 obtain rfl:=uh s0
 obtain rfl:=uh s2
 exact rfl
theorem adD (w:World) (base:Nat) (ok:Nat→Prop) (x:cZ):Qe.M w base ok x [Z ab x.f0.f0,Z ab x.f0.f1,Z ab x.f1.f0,Z ab x.f1.f1]:=⟨[Z ab x.f0.f0,Z ab x.f0.f1],[Z ab x.f1.f0,Z ab x.f1.f1],rfl,(rY w base ok x.f0),(rY w base ok x.f1)⟩
def bE (xs:List cZ) (i:Int):cZ:=xs.getD i.toNat z31
theorem FC {w:World} {A:Option Addr} {n:Nat} {xs:List cZ} (h:Kd.C Qe w A n xs) (i:Int) (h0:0≤i) (h1:i < n):∃ ad,A = some ad∧w.cell? (ad.add (i.toNat*4)) = some (Z ab (bE xs i).f0.f0)∧w.cell? ⟨(ad.add (i.toNat*4)).block,(ad.add (i.toNat*4)).off+1,none⟩ = some (Z ab (bE xs i).f0.f1)∧w.cell? ⟨(ad.add (i.toNat*4)).block,(ad.add (i.toNat*4)).off+2,none⟩ = some (Z ab (bE xs i).f1.f0)∧w.cell? ⟨(ad.add (i.toNat*4)).block,(ad.add (i.toNat*4)).off+3,none⟩ = some (Z ab (bE xs i).f1.f1):=by
 obtain ⟨ad,c,e,_,hK,hc0⟩:=Kd.ac7 h z31 i h0 h1
 have hc:∀ j u,c[j]? = some u→w.cell? (ad.add (i.toNat*4+j)) = some u:=hc0
 obtain rfl:=Rp hK
 exact ⟨ad,e,hc 0 _ rfl,zq0,by rw [← yh _ _ 2 (by omega)];exact hc 2 _ rfl,by rw [← yh _ _ 3 (by omega)];exact hc 3 _ rfl⟩
structure xz where
 f0:cZ
 f1:Int
 f2:Int
def k81:Kd xz:=Kd.iso (Kd.pair Qe (Kd.pair (Kd.int .i64) (Kd.int .i64))) (fun x:xz=>(x.f0,x.f1,x.f2))
theorem aj4 {w:World} {x:xz} {cs:List Value} (h:k81.K w x cs):cs = [Z ab x.f0.f0.f0,Z ab x.f0.f0.f1,Z ab x.f0.f1.f0,Z ab x.f0.f1.f1,Z ab x.f1,Z ab x.f2]:=by
 obtain ⟨_,_,rfl,s0,⟨_,_,rfl,rfl,rfl⟩⟩:=h
 obtain rfl:=Rp s0
 exact rfl
def dK.f (ax:Int) (av:Int) (aH:Int) (aG:Int) (aQ:Int) (aN:Int) (aM:Int) (bn:List Bool) (aW:List (qW)):Option (Bool):=if (bn.length:Int) > 200 then (some true) else (some (decide ((aW.length:Int) > 3000)))
set_option maxHeartbeats 8000000 in
set_option maxRecDepth 100000 in
theorem dK.calls (ax:Int) (av:Int) (aH:Int) (aG:Int) (aQ:Int) (aN:Int) (aM:Int) (fJ:Option Addr) (fK:Nat) (bn:List Bool) (fU:Option Addr) (fM:Nat) (aW:List (qW)) (r:Bool) (w:World) (nP:Kd.C Kd.bool w fJ bn.length bn) (nQ:bn.length≤fK) (nR:Kd.C Cm w fU aW.length aW) (nS:aW.length≤fM) (h:dK.f ax av aH aG aQ aN aM bn aW = some r):
 Calls Try.prog 22 #[.agg #[Z ab ax,Z ab av,Z ab aH,Z ab aG,Z ab aQ,Z ab aN,Z ab aM,.slice fJ bn.length fK,.slice fU aW.length fM]] w fun e w'=>e = .returned (.bool r)∧Below w.heap.size w w':=by
 have Cn:=Try.underlying25
 have mi:=ag.mk nP
 have mo:=ag.mk nQ
 clear nP nQ
 have jH:=ag.mk nR
 have mq:=ag.mk nS
 clear nR nS
 have HB:=ag.mk (Below.refl w.heap.size w)
 have H:(if (bn.length:Int) > 200 then (some true) else (some (decide ((aW.length:Int) > 3000)))) = some r:=h
 clear h
 by_cases c2:(bn.length:Int) > 200
 ·rw [if_pos c2] at H
  have acQ:decide (200 < (bn.length:Int)) = true:=decide_eq_true c2
  have aFa:decide (200 < bn.length) = true:=decide_eq_true (by omega)
  clear c2
  obtain rfl:=Option.some.inj H
  go_enter Try.func22,Try.ntmps22
  go_wp2_with (first|((with_reducible refine aI (N:=1) rfl ?_);(try (refine jI (by rfl) ?_;dsimp only));refine aC (by rfl) (N:=1) (by rfl) (cs:=#[Z ab ax,Z ab av,Z ab aH,Z ab aG,Z ab aQ,Z ab aN,Z ab aM,.slice fJ bn.length fK,.slice fU aW.length fM]) (t:=25) gu ?_;intro avw hg w3 hbox hb;have aj5:=ag.mk (hbox);have avx:=cB HB hg;have avy:=cB HB hg;replace HB:=cK HB hb;clear hb hbox hg;obtain ⟨acR,acS,aj6,aj7,aqh,aqi,aqj,aFb,aFc,acT,acU,aj8,aj9,aqk,aql,aqm,aFd,aFe⟩:=ji aj5.out))
  go_ret
  exact ⟨mf,eZ⟩
 ·rw [if_neg c2] at H
  have acQ:decide (200 < (bn.length:Int)) = false:=decide_eq_false c2
  have aFa:decide (200 < bn.length) = false:=decide_eq_false (by omega)
  clear c2
  obtain rfl:=Option.some.inj H
  go_enter Try.func22,Try.ntmps22
  go_wp2_with (first|((with_reducible refine aI (N:=1) rfl ?_);(try (refine jI (by rfl) ?_;dsimp only));refine aC (by rfl) (N:=1) (by rfl) (cs:=#[Z ab ax,Z ab av,Z ab aH,Z ab aG,Z ab aQ,Z ab aN,Z ab aM,.slice fJ bn.length fK,.slice fU aW.length fM]) (t:=25) gu ?_;intro avw hg w5 hbox hb;have aj5:=ag.mk (hbox);have avx:=cB HB hg;have avy:=cB HB hg;replace HB:=cK HB hb;clear hb hbox hg;obtain ⟨aFf,aFg,aFh,aFi,aFj,aFk,aFl,aFm,aFn,aFo,aFp,aFq,aFr,aFs,aFt,aFu,aFv,aFw⟩:=ji aj5.out))
  go_ret
  exact ⟨mf,eZ⟩
def ay.f (a0:Int) (a1:Int) (a2:Int):Option (Bool):=if a0 ≥ a1 then (some (decide (a0≤a2))) else (some false)
set_option maxHeartbeats 8000000 in
set_option maxRecDepth 100000 in
theorem ay.calls (a0:Int) (a1:Int) (a2:Int) (r:Bool) (w:World) (h:ay.f a0 a1 a2 = some r):
 Calls Try.prog 112 #[Z ab a0,Z ab a1,Z ab a2] w fun e w'=>e = .returned (.bool r)∧uQ w w':=by
 have H:(if a0 ≥ a1 then (some (decide (a0≤a2))) else (some false)) = some r:=h
 clear h
 by_cases c4:a0 ≥ a1
 ·rw [if_pos c4] at H
  have xW:decide (a1≤a0) = true:=decide_eq_true c4
  clear c4
  obtain rfl:=Option.some.inj H
  go_enter Try.func112,Try.ntmps112
  go_wp2
  go_ret
  exact ⟨sG,zq4⟩
 ·rw [if_neg c4] at H
  have xW:decide (a1≤a0) = false:=decide_eq_false c4
  clear c4
  obtain rfl:=Option.some.inj H
  go_enter Try.func112,Try.ntmps112
  go_wp2
  go_ret
  exact ⟨sG,zq4⟩
def bu.f (ax:Int) (av:Int):Option (Bool):=if ax≤av then ((ay.f ax (-1073741824) 1073741824).bind fun t103=>(if t103 = true then ((ay.f av (-1073741824) 1073741824).bind fun t104=>(some t104)) else (some false))) else (some false)
set_option maxHeartbeats 8000000 in
set_option maxRecDepth 100000 in
theorem bu.calls (ax:Int) (av:Int) (r:Bool) (w:World) (h:bu.f ax av = some r):
 Calls Try.prog 111 #[.agg #[Z ab ax,Z ab av]] w fun e w'=>e = .returned (.bool r)∧Below w.heap.size w w':=by
 have mE:=Try.underlying27
 have HB:=ag.mk (Below.refl w.heap.size w)
 have H:(if ax≤av then ((ay.f ax (-1073741824) 1073741824).bind fun t103=>(if t103 = true then ((ay.f av (-1073741824) 1073741824).bind fun t104=>(some t104)) else (some false))) else (some false)) = some r:=h
 clear h
 by_cases c2:ax≤av
 ·rw [if_pos c2] at H
  have acQ:decide (ax≤av) = true:=decide_eq_true c2
  clear c2
  replace H:=Option.bind_eq_some_iff.mp H
  obtain ⟨t103,A30,H⟩:=H
  replace H:(if t103 = true then ((ay.f av (-1073741824) 1073741824).bind fun t104=>(some t104)) else (some false)) = some r:=H
  have A3:=ag.mk A30
  clear A30
  by_cases c4:t103 = true
  ·subst c4
   have H1:((ay.f av (-1073741824) 1073741824).bind fun t104=>(some t104)) = some r:=by rw [if_pos rfl] at H;exact H
   clear H
   have H:=H1
   clear H1
   replace H:=Option.bind_eq_some_iff.mp H
   obtain ⟨t104,A50,H⟩:=H
   replace H:(some t104) = some r:=H
   have A5:=ag.mk A50
   clear A50
   obtain rfl:=Option.some.inj H
   go_enter Try.func111,Try.ntmps111
   go_wp2_with (first|((with_reducible refine aI (N:=1) rfl ?_);refine aC (by rfl) (N:=1) (by rfl) (cs:=#[Z ab ax,Z ab av]) (t:=27) gu ?_;intro aow hg w6 hbox hb;have aaM:=ag.mk (hbox);have aox:=cB HB hg;have aoy:=cB HB hg;replace HB:=cK HB hb;clear hb hbox hg;obtain ⟨Cs,Ct,Cu,Cv⟩:=iq aaM.out)|(go_at_call 112;(with_reducible refine (ay.calls ax (-1073741824) 1073741824 true _ A3.out).mono ?_);rintro e w' ⟨rfl,⟨nd,rfl⟩⟩)|(go_at_call 112;(with_reducible refine (ay.calls av (-1073741824) 1073741824 t104 _ A5.out).mono ?_);rintro e w' ⟨rfl,⟨nd,rfl⟩⟩))
   go_ret
   exact ⟨mf,eZ⟩
  ·replace c4:=Bool.eq_false_iff.mpr c4
   subst c4
   have H1:(some false) = some r:=by rw [if_neg (show ¬ (false = true) by decide)] at H;exact H
   clear H
   have H:=H1
   clear H1
   obtain rfl:=Option.some.inj H
   go_enter Try.func111,Try.ntmps111
   go_wp2_with (first|((with_reducible refine aI (N:=1) rfl ?_);refine aC (by rfl) (N:=1) (by rfl) (cs:=#[Z ab ax,Z ab av]) (t:=27) gu ?_;intro aow hg w8 hbox hb;have aaM:=ag.mk (hbox);have aox:=cB HB hg;have aoy:=cB HB hg;replace HB:=cK HB hb;clear hb hbox hg;obtain ⟨Fv,Fw,Fx,Fy⟩:=iq aaM.out)|(go_at_call 112;(with_reducible refine (ay.calls ax (-1073741824) 1073741824 false _ A3.out).mono ?_);rintro e w' ⟨rfl,⟨nd,rfl⟩⟩))
   go_ret
   exact ⟨mf,eZ⟩
 ·rw [if_neg c2] at H
  have acQ:decide (ax≤av) = false:=decide_eq_false c2
  clear c2
  obtain rfl:=Option.some.inj H
  go_enter Try.func111,Try.ntmps111
  go_wp2_with (first|((with_reducible refine aI (N:=1) rfl ?_);refine aC (by rfl) (N:=1) (by rfl) (cs:=#[Z ab ax,Z ab av]) (t:=27) gu ?_;intro aow hg w10 hbox hb;have aaM:=ag.mk (hbox);have aox:=cB HB hg;have aoy:=cB HB hg;replace HB:=cK HB hb;clear hb hbox hg;obtain ⟨uG,uH,uI,uJ⟩:=iq aaM.out))
  go_ret
  exact ⟨mf,eZ⟩
def aX.f (ax:Int) (av:Int) (a1:Int) (a2:Int):Option (Bool):=(bu.f ax av).bind fun t106=>(if t106 = true then (if ax ≥ a1 then (some (decide (av≤a2))) else (some false)) else (some false))
set_option maxHeartbeats 8000000 in
set_option maxRecDepth 100000 in
theorem aX.calls (ax:Int) (av:Int) (a1:Int) (a2:Int) (r:Bool) (w:World) (h:aX.f ax av a1 a2 = some r):
 Calls Try.prog 78 #[.agg #[Z ab ax,Z ab av],Z ab a1,Z ab a2] w fun e w'=>e = .returned (.bool r)∧Below w.heap.size w w':=by
 have mE:=Try.underlying27
 have HB:=ag.mk (Below.refl w.heap.size w)
 have H:((bu.f ax av).bind fun t106=>(if t106 = true then (if ax ≥ a1 then (some (decide (av≤a2))) else (some false)) else (some false))) = some r:=h
 clear h
 replace H:=Option.bind_eq_some_iff.mp H
 obtain ⟨t106,Sc,H⟩:=H
 replace H:(if t106 = true then (if ax ≥ a1 then (some (decide (av≤a2))) else (some false)) else (some false)) = some r:=H
 have A4:=ag.mk Sc
 clear Sc
 by_cases c5:t106 = true
 ·subst c5
  have H1:(if ax ≥ a1 then (some (decide (av≤a2))) else (some false)) = some r:=by rw [if_pos rfl] at H;exact H
  clear H
  have H:=H1
  clear H1
  by_cases c6:ax ≥ a1
  ·rw [if_pos c6] at H
   have P5:decide (a1≤ax) = true:=decide_eq_true c6
   clear c6
   obtain rfl:=Option.some.inj H
   go_enter Try.func78,Try.ntmps78
   go_wp2_with (first|((with_reducible refine aI (N:=3) rfl ?_);refine aC (by rfl) (N:=3) (by rfl) (cs:=#[Z ab ax,Z ab av]) (t:=27) gu ?_;intro aoz hg w7 hbox hb;have zo:=ag.mk (hbox);have aoA:=cB HB hg;have aoB:=cB HB hg;replace HB:=cK HB hb;clear hb hbox hg;obtain ⟨ag7,ag8,ag9,aha⟩:=iq zo.out)|((with_reducible refine aR (f:=111) rfl ?_);refine bU (some 8) rfl rfl Try.func111 aT rfl #[.agg #[Z ab ax,Z ab av]] rfl jQ ?_;(with_reducible refine (bu.calls ax av true _ A4.out).mono ?_);rintro e w9 ⟨rfl,hb⟩;refine ⟨_,rfl,?_⟩;replace zo:=bJ zo hb;replace HB:=cK HB hb;(try clear hb);(try clear hb2);(try clear hk);(try clear hi);obtain ⟨DL,DN,DR,DT⟩:=iq zo.out))
   go_ret
   exact ⟨mf,eZ⟩
  ·rw [if_neg c6] at H
   have P5:decide (a1≤ax) = false:=decide_eq_false c6
   clear c6
   obtain rfl:=Option.some.inj H
   go_enter Try.func78,Try.ntmps78
   go_wp2_with (first|((with_reducible refine aI (N:=3) rfl ?_);refine aC (by rfl) (N:=3) (by rfl) (cs:=#[Z ab ax,Z ab av]) (t:=27) gu ?_;intro aoz hg w11 hbox hb;have zo:=ag.mk (hbox);have aoA:=cB HB hg;have aoB:=cB HB hg;replace HB:=cK HB hb;clear hb hbox hg;obtain ⟨vK,vL,vM,vN⟩:=iq zo.out)|((with_reducible refine aR (f:=111) rfl ?_);refine bU (some 8) rfl rfl Try.func111 aT rfl #[.agg #[Z ab ax,Z ab av]] rfl jQ ?_;(with_reducible refine (bu.calls ax av true _ A4.out).mono ?_);rintro e Yq ⟨rfl,hb⟩;refine ⟨_,rfl,?_⟩;replace zo:=bJ zo hb;replace HB:=cK HB hb;(try clear hb);(try clear hb2);(try clear hk);(try clear hi);obtain ⟨Dk,Dl,Dm,Dn⟩:=iq zo.out))
   go_ret
   exact ⟨mf,eZ⟩
 ·replace c5:=Bool.eq_false_iff.mpr c5
  subst c5
  have H1:(some false) = some r:=by rw [if_neg (show ¬ (false = true) by decide)] at H;exact H
  clear H
  have H:=H1
  clear H1
  obtain rfl:=Option.some.inj H
  go_enter Try.func78,Try.ntmps78
  go_wp2_with (first|((with_reducible refine aI (N:=3) rfl ?_);refine aC (by rfl) (N:=3) (by rfl) (cs:=#[Z ab ax,Z ab av]) (t:=27) gu ?_;intro aoz hg w15 hbox hb;have zo:=ag.mk (hbox);have aoA:=cB HB hg;have aoB:=cB HB hg;replace HB:=cK HB hb;clear hb hbox hg;obtain ⟨Xq,Xr,Xt,Xu⟩:=iq zo.out)|((with_reducible refine aR (f:=111) rfl ?_);refine bU (some 8) rfl rfl Try.func111 aT rfl #[.agg #[Z ab ax,Z ab av]] rfl jQ ?_;(with_reducible refine (bu.calls ax av false _ A4.out).mono ?_);rintro e w17 ⟨rfl,hb⟩;refine ⟨_,rfl,?_⟩;replace zo:=bJ zo hb;replace HB:=cK HB hb;(try clear hb);(try clear hb2);(try clear hk);(try clear hi)))
  go_ret
  exact ⟨mf,eZ⟩
end Go.Proofs.Ytmhaiihjfgfaoaa.Pr
end
