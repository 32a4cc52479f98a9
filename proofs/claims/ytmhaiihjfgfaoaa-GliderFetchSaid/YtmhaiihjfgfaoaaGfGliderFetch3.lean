import Derived.Test.YtmhaiihjfgfaoaaProg
import Derived.Below
import Derived.Deep.Draws
import Derived.Deep.AppendLies
import Derived.Maps.AppendAt
import Derived.OwnWalk
import Derived.Laws.BytesArg
import Derived.Laws.MakeOwn
import Derived.Laws.OwnMore
import Derived.Deep.OwnRows
import Derived.Tactics
import Derived.Lib.ConvBytes
import Derived.Laws.Slices
import Derived.WalkKit
import Derived.KernelRfl
import Derived.RowKit3
import Derived.Deep.LoopGhost
import Derived.Deep.QuietTactic
import Derived.BigQuiet
import Derived.WideLaws
import Derived.Deep.DeepCutAuto
import Derived.Deep.CutBlock
import Derived.Deep.RegionHeld3
import Derived.Laws.Rows
import Derived.Lib.AppendStr
import Derived.ArgAppend
import Derived.Laws.IdiomCopy
import Derived.OrdersHeld
import Derived.Laws.BitsLemmas
import Derived.RowKit
import Derived.Test.YtmhaiihjfgfaoaaGfGliderFetch1
import Derived.Test.YtmhaiihjfgfaoaaGfGliderFetch2
set_option linter.unusedVariables false
set_option linter.unusedSimpArgs false
set_option linter.unusedVariables false
open Go.Value renaming int → U
open Go.IntKind renaming i64 → Z
open Bool renaming true → ab, false → ac
section
namespace Go.Proofs.YtmhaiihjfgfaoaaW.PrintMore
open Go.RowKit Go.Proofs.YtmhaiihjfgfaoaaW.PrintWords
namespace Kd
open Go.Proofs.YtmhaiihjfgfaoaaW.PrintWords.Kd
end Kd
namespace Kd
open Go.Proofs.YtmhaiihjfgfaoaaW.PrintWords.Kd
section
variable {α:Type} {d:Kd α} {e base g N:Nat} {ok:Nat→Prop} {W w1:World} {u v:Value} {xs:List α}
end
end Kd
theorem gp (k k':IntKind) (x y:Int):Builtin.max2 (.int k x) (.int k' y) = pure (.int k (if x < y then y else x)):=by simp only [Builtin.max2,gt_iff_lt]
theorem gq (k k':IntKind) (x y:Int):Builtin.min2 (.int k x) (.int k' y) = pure (.int k (if y < x then y else x)):=by simp only [Builtin.min2]
theorem iA (ats:Array TypeId) (ty:TypeId) (a b:Value):Builtin.max_ ats ty #[a,b] = (Builtin.max2 a b >>= fun s=>pure s):=by simp only [Builtin.max_,List.foldlM_cons,List.foldlM_nil]
theorem iB (ats:Array TypeId) (ty:TypeId) (a b:Value):Builtin.min_ ats ty #[a,b] = (Builtin.min2 a b >>= fun s=>pure s):=by simp only [Builtin.min_,List.foldlM_cons,List.foldlM_nil]
theorem gu (ats:Array TypeId) (ty:TypeId) (a b c d:Value):Builtin.max_ ats ty #[a,b,c,d] = (Builtin.max2 a b >>= fun s=>Builtin.max2 s c >>= fun s=>Builtin.max2 s d >>= fun s=>pure s):=by simp only [Builtin.max_,List.foldlM_cons,List.foldlM_nil]
end Go.Proofs.YtmhaiihjfgfaoaaW.PrintMore
namespace Go.Proofs.YtmhaiihjfgfaoaaW.PrintWords
open Go.RowKit
section
variable {P:Program} {ops:Array Oper} {rest:List Oper} {o:Oper} {a:Act} {Q:Exit→Act→World→Prop} {W:World}
theorem aQ {f:FuncId} {as_:Array Operand} {ts:Array TypeId} (_ho:o.op = .call { callee:=.value (.func f),args:=as_,argTypes:=ts }) (h:wpList P ops Q (o :: rest) a W):wpList P ops Q (o :: rest) a W:=h
theorem yG {b:Builtin} {xs:Array Operand} {ts:Array TypeId} (_ho:o.op = .call { callee:=.builtin b,args:=xs,argTypes:=ts }) (h:wpList P ops Q (o :: rest) a W):wpList P ops Q (o :: rest) a W:=h
end
def mx (a b:Int):Int:=if a < b then b else a
def mn (a b:Int):Int:=if b < a then b else a
theorem aee (w:World) (n:Nat):w.drewN n = w.drewN n:=rfl
namespace Kd
section
variable {α:Type} {d:Kd α} {e base:Nat} {ok:Nat→Prop} {W w1:World} {v:Value} {xs:List α}
end
section
variable {α:Type} {d:Kd α} {e base g n cap:Nat} {ok oki okp:Nat→Prop} {W:World} {xs:List α} {i:Int} {c:List Value}
end
section
variable {α:Type} {d:Kd α} {e base b b' g N:Nat} {ok ok1:Nat→Prop} {W W2 w1:World} {u v:Value} {xs ys:List α} {S:Nat→Prop}
end
end Kd
end Go.Proofs.YtmhaiihjfgfaoaaW.PrintWords
namespace Go.Proofs.YtmhaiihjfgfaoaaW.PrintWords
open Go.RowKit
namespace Kd
def V {α:Type} (d:Kd α) (_e:Nat) (W:World) (_base:Nat) (ok:Nat→Prop) (v:Value) (xs:List α):Prop:=∃ A c,v = .slice A xs.length c∧xs.length≤c∧F d W ok A xs.length xs
section
variable {α β:Type} {d:Kd α} {e base base' n m c g N' lo hi:Nat} {ok ok' S:Nat→Prop} {w W w1:World} {A:Option Addr} {ad:Addr} {u v v1:Value} {xs:List α}
end
end Kd
end Go.Proofs.YtmhaiihjfgfaoaaW.PrintWords
end
section
set_option linter.unusedVariables false
namespace Go.Proofs.YtmhaiihjfgfaoaaW.PrintMore
open Go.RowKit Go.Proofs.YtmhaiihjfgfaoaaW.PrintWords Go.Proofs.YtmhaiihjfgfaoaaW.PrintLast
theorem aX {W0 W W1:World} {g:Nat} {o:Obj} (h:aa (W0.heap[g]? = some o)) (hb:Below W.heap.size W W1) (h2:W.heap[g]? = some o:=by (repeat first|(with_reducible first|refine av ?_ _|refine ag ?_|refine af ?_ _)|refine aV ?_ (aa.out (by assumption)) _);exact aa.out (by assumption)):aa (W1.heap[g]? = some o):=⟨aU h2 hb⟩
theorem cO {w W0 W W1:World} (h:aa (Below w.heap.size w W0)) (hb:Below W.heap.size W W1) (h2:Below w.heap.size w W:=by repeat (first|(with_reducible first|exact aa.out (by assumption)|apply bA|apply qy|apply bO|refine O5 ?_ (aa.out (by assumption)))|exact aa.out (by assumption))):aa (Below w.heap.size w W1):=⟨dY h2 hb⟩
theorem bS {w W0 W:World} {g:Nat} (h:aa (Below w.heap.size w W0)) (hg:g = W.heap.size) (h2:Below w.heap.size w W:=by repeat (first|(with_reducible first|exact aa.out (by assumption)|apply bA|apply qy|apply bO|refine O5 ?_ (aa.out (by assumption)))|exact aa.out (by assumption))):aa (w.heap.size≤g):=⟨by rw [hg];exact iq h2⟩
theorem eQ {W0 W:World} {g g1:Nat} {o:Obj} (h:aa (W0.heap[g]? = some o)) (hg:g1 = W.heap.size) (h2:W.heap[g]? = some o:=by (repeat first|(with_reducible first|refine av ?_ _|refine ag ?_|refine af ?_ _)|refine aV ?_ (aa.out (by assumption)) _);exact aa.out (by assumption)):aa (g≠g1):=⟨by rw [hg];exact Nat.ne_of_lt (eG h2)⟩
theorem eT {W0 W:World} {g g1:Nat} {o:Obj} (h:aa (W0.heap[g]? = some o)) (hg:g1 = W.heap.size) (h2:W.heap[g]? = some o:=by (repeat first|(with_reducible first|refine av ?_ _|refine ag ?_|refine af ?_ _)|refine aV ?_ (aa.out (by assumption)) _);exact aa.out (by assumption)):aa (g1≠g):=⟨by rw [hg];exact Nat.ne_of_gt (eG h2)⟩
theorem gL {p:Prop} (h:p:=by repeat (first|(with_reducible first|exact aa.out (by assumption)|apply bA|apply qy|apply bO|refine O5 ?_ (aa.out (by assumption)))|exact aa.out (by assumption))):p:=h
theorem bY {W:World} {x g i j:Nat} {v:Value} {q:Option Value} (h:aa (x≠g)) (e:W.cell? ⟨x,j,none⟩ = q):(W.setCell ⟨g,i,none⟩ v).cell? ⟨x,j,none⟩ = q:=(cell_far (p:=⟨g,_,none⟩) h.out _).trans e
theorem bE {W:World} {b:Nat} {cs:Array Value} {t:TypeId} (h:aa (W.heap[b]? = some (.cells cs t (0,0)))) (k:Nat) {v:Value} (e:cs[k]? = some v:=by rfl):W.cell? ⟨b,k,none⟩ = some v:=(ah h.out k).trans e
theorem jJ {w W:World} {p:Addr} {v:Value} (h:aa (Below w.heap.size w W)) (e:w.cell? p = some v):W.cell? p = some v:=(h.out.cell (World.block_lt_of_cell? w _ e)).trans e
theorem gB {p:Prop} (h:p:=by (repeat first|(with_reducible first|refine av ?_ _|refine ag ?_|refine af ?_ _)|refine aV ?_ (aa.out (by assumption)) _);exact aa.out (by assumption)):p:=h
theorem zt {α:Type} {d:Kd α} {e base:Nat} {ok:Nat→Prop} {v:Value} {xs:List α} {W0 W W1:World} (h:aa (d.R e W0 base ok v xs)) (hb:Below W.heap.size W W1) (h2:d.R e W base ok v xs:=by (with_reducible repeat (first|apply Kd.mY|apply Kd.mZ|apply Kd.mg));exact aa.out (by assumption)):aa (d.R e W1 base ok v xs):=⟨Kd.mH h2 hb⟩
theorem bV {P:Program} {ops:Array Oper} {Q:Exit→Act→World→Prop} {S:World→Prop} {ds:List Nat} {md:Region.Mode} (i:Nat) (N:Option Tmp) {oi:Oper} {v:Value} {fuel:Nat} {l l':Array Bool} {a:Act} {w:World} (hc:amY md ops l l' i = true) {a':Act}
 (h:fF P md ops Q S ds fuel l' a' w) (hl:l.setIfInBounds i true = l':=by simp only [List.setIfInBounds_toArray,List.set_cons_zero,List.set_cons_succ];rfl) (hi:ops[i]? = some oi:=by rfl) (hN:oi.dst = N:=by rfl) (hw:Region.wanted oi (yielded ops a.tmps) = true:=by rfl)
 (hy:∀ w,(execOp a.eval oi).run P w = .ok (.value v) w:=by intro w';go_simp;with_reducible rfl) (ha:a.put N v = a':=by simp only [Act.put,List.setIfInBounds_toArray,List.set_cons_zero,List.set_cons_succ,ib,ig];rfl) (hQ:∀ c a w,Q (.panic c) (a.put oi.dst v) w→Q (.panic c) a w:=by exact fun _ _ _ h=>h):fF P md ops Q S ds (fuel+1) l a w:=qa l' hi hN hc hQ (Or.inl ⟨hw,hy⟩) ha h
theorem iL {P:Program} {ops:Array Oper} {Q:Exit→Act→World→Prop} {S:World→Prop} {ds:List Nat} {md:Region.Mode} (i:Nat) (N:Option Tmp) {oi:Oper} {v:Value} {fuel:Nat} {l l':Array Bool} {a:Act} {w:World} (hc:takeB md ops ds l l' i = true) {a':Act}
 (hS:S w) (h:fF P md ops Q S ds fuel l' a' w) (hl:l.setIfInBounds i true = l':=by simp only [List.setIfInBounds_toArray,List.set_cons_zero,List.set_cons_succ];rfl) (hi:ops[i]? = some oi:=by rfl) (hN:oi.dst = N:=by rfl) (hw:Region.wanted oi (yielded ops a.tmps) = true:=by rfl)
 (hy:∀ w,S w→(execOp a.eval oi).run P w = .ok (.value v) w:=by intro w' s_;repeat' obtain ⟨_,s_⟩:=s_;go_simp;with_reducible rfl) (ha:a.put N v = a':=by simp only [Act.put,List.setIfInBounds_toArray,List.set_cons_zero,List.set_cons_succ,ib,ig];rfl) (hQ:∀ c a w,Q (.panic c) (a.put oi.dst v) w→Q (.panic c) a w:=by exact fun _ _ _ h=>h):fF P md ops Q S ds (fuel+1) l a w:=aCf l' hi hN hc hQ (Or.inl ⟨hw,hy⟩) hS ha h
theorem GJ {W:World} {g:Nat} {x0 x1:Value} {T:TypeId} (h:W.heap[g]? = some (.cells #[x0,x1] T (0,0))):W.cell? ⟨g,0,none⟩ = some x0∧W.cell? ⟨g,1,none⟩ = some x1:=⟨(ah h 0).trans rfl,(ah h 1).trans rfl⟩
theorem iZ {W:World} {g:Nat} {x0 x1:Value} {T:TypeId} (h:W.heap[g]? = some (.cells #[x0,x1] T (0,0))):W.cell? ⟨g,0,none⟩ = some x0∧W.cell? ⟨g,1,none⟩ = some x1∧W.frozen? ⟨g,0,none⟩ = false∧W.frozen? ⟨g,1,none⟩ = false:=⟨(ah h 0).trans rfl,(ah h 1).trans rfl,bf h 0,bf h 1⟩
theorem xy {W:World} {g:Nat} {x0 x1 x2 x3:Value} {T:TypeId} (h:W.heap[g]? = some (.cells #[x0,x1,x2,x3] T (0,0))):W.cell? ⟨g,0,none⟩ = some x0∧W.cell? ⟨g,1,none⟩ = some x1∧W.cell? ⟨g,2,none⟩ = some x2∧W.cell? ⟨g,3,none⟩ = some x3:=⟨(ah h 0).trans rfl,(ah h 1).trans rfl,(ah h 2).trans rfl,(ah h 3).trans rfl⟩
theorem aqd {W:World} {g:Nat} {x0 x1 x2 x3:Value} {T:TypeId} (h:W.heap[g]? = some (.cells #[x0,x1,x2,x3] T (0,0))):W.frozen? ⟨g,0,none⟩ = false∧W.frozen? ⟨g,1,none⟩ = false∧W.frozen? ⟨g,2,none⟩ = false∧W.frozen? ⟨g,3,none⟩ = false:=⟨bf h 0,bf h 1,bf h 2,bf h 3⟩
theorem jc {W:World} {g:Nat} {x0 x1 x2 x3:Value} {T:TypeId} (h:W.heap[g]? = some (.cells #[x0,x1,x2,x3] T (0,0))):W.cell? ⟨g,0,none⟩ = some x0∧W.cell? ⟨g,1,none⟩ = some x1∧W.cell? ⟨g,2,none⟩ = some x2∧W.cell? ⟨g,3,none⟩ = some x3∧W.frozen? ⟨g,0,none⟩ = false∧W.frozen? ⟨g,1,none⟩ = false∧W.frozen? ⟨g,2,none⟩ = false∧W.frozen? ⟨g,3,none⟩ = false:=⟨(ah h 0).trans rfl,(ah h 1).trans rfl,(ah h 2).trans rfl,(ah h 3).trans rfl,bf h 0,bf h 1,bf h 2,bf h 3⟩
theorem Li {W:World} {g:Nat} {x0 x1 x2 x3:Value} {T:TypeId} {q:Prop} (h:W.heap[g]? = some (.cells #[x0,x1,x2,x3] T (0,0))) (r:q):W.cell? ⟨g,0,none⟩ = some x0∧W.cell? ⟨g,1,none⟩ = some x1∧W.cell? ⟨g,2,none⟩ = some x2∧W.cell? ⟨g,3,none⟩ = some x3∧q:=⟨(ah h 0).trans rfl,(ah h 1).trans rfl,(ah h 2).trans rfl,(ah h 3).trans rfl,r⟩
theorem aGH {W:World} {g:Nat} {x0 x1 x2 x3 x4 x5:Value} {T:TypeId} (h:W.heap[g]? = some (.cells #[x0,x1,x2,x3,x4,x5] T (0,0))):W.cell? ⟨g,0,none⟩ = some x0∧W.cell? ⟨g,1,none⟩ = some x1∧W.cell? ⟨g,2,none⟩ = some x2∧W.cell? ⟨g,3,none⟩ = some x3∧W.cell? ⟨g,4,none⟩ = some x4∧W.cell? ⟨g,5,none⟩ = some x5:=⟨(ah h 0).trans rfl,(ah h 1).trans rfl,(ah h 2).trans rfl,(ah h 3).trans rfl,(ah h 4).trans rfl,(ah h 5).trans rfl⟩
theorem wT {W:World} {g:Nat} {x0 x1 x2 x3 x4 x5:Value} {T:TypeId} (h:W.heap[g]? = some (.cells #[x0,x1,x2,x3,x4,x5] T (0,0))):W.cell? ⟨g,0,none⟩ = some x0∧W.cell? ⟨g,1,none⟩ = some x1∧W.cell? ⟨g,2,none⟩ = some x2∧W.cell? ⟨g,3,none⟩ = some x3∧W.cell? ⟨g,4,none⟩ = some x4∧W.cell? ⟨g,5,none⟩ = some x5∧W.frozen? ⟨g,0,none⟩ = false∧W.frozen? ⟨g,1,none⟩ = false∧W.frozen? ⟨g,2,none⟩ = false∧W.frozen? ⟨g,3,none⟩ = false∧W.frozen? ⟨g,4,none⟩ = false∧W.frozen? ⟨g,5,none⟩ = false:=⟨(ah h 0).trans rfl,(ah h 1).trans rfl,(ah h 2).trans rfl,(ah h 3).trans rfl,(ah h 4).trans rfl,(ah h 5).trans rfl,bf h 0,bf h 1,bf h 2,bf h 3,bf h 4,bf h 5⟩
theorem aDS {W:World} {g:Nat} {x0 x1 x2 x3 x4 x5:Value} {T:TypeId} {q:Prop} (h:W.heap[g]? = some (.cells #[x0,x1,x2,x3,x4,x5] T (0,0))) (r:q):W.cell? ⟨g,0,none⟩ = some x0∧W.cell? ⟨g,1,none⟩ = some x1∧W.cell? ⟨g,2,none⟩ = some x2∧W.cell? ⟨g,3,none⟩ = some x3∧W.cell? ⟨g,4,none⟩ = some x4∧W.cell? ⟨g,5,none⟩ = some x5∧q:=⟨(ah h 0).trans rfl,(ah h 1).trans rfl,(ah h 2).trans rfl,(ah h 3).trans rfl,(ah h 4).trans rfl,(ah h 5).trans rfl,r⟩
theorem Mk {W:World} {g:Nat} {x0 x1 x2 x3 x4 x5 x6:Value} {T:TypeId} (h:W.heap[g]? = some (.cells #[x0,x1,x2,x3,x4,x5,x6] T (0,0))):W.cell? ⟨g,0,none⟩ = some x0∧W.cell? ⟨g,1,none⟩ = some x1∧W.cell? ⟨g,2,none⟩ = some x2∧W.cell? ⟨g,3,none⟩ = some x3∧W.cell? ⟨g,4,none⟩ = some x4∧W.cell? ⟨g,5,none⟩ = some x5∧W.cell? ⟨g,6,none⟩ = some x6:=⟨(ah h 0).trans rfl,(ah h 1).trans rfl,(ah h 2).trans rfl,(ah h 3).trans rfl,(ah h 4).trans rfl,(ah h 5).trans rfl,(ah h 6).trans rfl⟩
theorem jF {W:World} {g:Nat} {x0 x1 x2 x3 x4 x5 x6:Value} {T:TypeId} (h:W.heap[g]? = some (.cells #[x0,x1,x2,x3,x4,x5,x6] T (0,0))):W.cell? ⟨g,0,none⟩ = some x0∧W.cell? ⟨g,1,none⟩ = some x1∧W.cell? ⟨g,2,none⟩ = some x2∧W.cell? ⟨g,3,none⟩ = some x3∧W.cell? ⟨g,4,none⟩ = some x4∧W.cell? ⟨g,5,none⟩ = some x5∧W.cell? ⟨g,6,none⟩ = some x6∧W.frozen? ⟨g,0,none⟩ = false∧W.frozen? ⟨g,1,none⟩ = false∧W.frozen? ⟨g,2,none⟩ = false∧W.frozen? ⟨g,3,none⟩ = false∧W.frozen? ⟨g,4,none⟩ = false∧W.frozen? ⟨g,5,none⟩ = false∧W.frozen? ⟨g,6,none⟩ = false:=⟨(ah h 0).trans rfl,(ah h 1).trans rfl,(ah h 2).trans rfl,(ah h 3).trans rfl,(ah h 4).trans rfl,(ah h 5).trans rfl,(ah h 6).trans rfl,bf h 0,bf h 1,bf h 2,bf h 3,bf h 4,bf h 5,bf h 6⟩
theorem qp {W:World} {g:Nat} {x0 x1 x2 x3 x4 x5 x6:Value} {T:TypeId} {q:Prop} (h:W.heap[g]? = some (.cells #[x0,x1,x2,x3,x4,x5,x6] T (0,0))) (r:q):W.cell? ⟨g,0,none⟩ = some x0∧W.cell? ⟨g,1,none⟩ = some x1∧W.cell? ⟨g,2,none⟩ = some x2∧W.cell? ⟨g,3,none⟩ = some x3∧W.cell? ⟨g,4,none⟩ = some x4∧W.cell? ⟨g,5,none⟩ = some x5∧W.cell? ⟨g,6,none⟩ = some x6∧q:=⟨(ah h 0).trans rfl,(ah h 1).trans rfl,(ah h 2).trans rfl,(ah h 3).trans rfl,(ah h 4).trans rfl,(ah h 5).trans rfl,(ah h 6).trans rfl,r⟩
theorem Dm {W:World} {g:Nat} {x0 x1 x2 x3 x4 x5 x6 x7 x8:Value} {T:TypeId} (h:W.heap[g]? = some (.cells #[x0,x1,x2,x3,x4,x5,x6,x7,x8] T (0,0))):W.cell? ⟨g,0,none⟩ = some x0∧W.cell? ⟨g,1,none⟩ = some x1∧W.cell? ⟨g,2,none⟩ = some x2∧W.cell? ⟨g,3,none⟩ = some x3∧W.cell? ⟨g,4,none⟩ = some x4∧W.cell? ⟨g,5,none⟩ = some x5∧W.cell? ⟨g,6,none⟩ = some x6∧W.cell? ⟨g,7,none⟩ = some x7∧W.cell? ⟨g,8,none⟩ = some x8:=⟨(ah h 0).trans rfl,(ah h 1).trans rfl,(ah h 2).trans rfl,(ah h 3).trans rfl,(ah h 4).trans rfl,(ah h 5).trans rfl,(ah h 6).trans rfl,(ah h 7).trans rfl,(ah h 8).trans rfl⟩
theorem jA {W:World} {g:Nat} {x0 x1 x2 x3 x4 x5 x6 x7 x8:Value} {T:TypeId} (h:W.heap[g]? = some (.cells #[x0,x1,x2,x3,x4,x5,x6,x7,x8] T (0,0))):W.cell? ⟨g,0,none⟩ = some x0∧W.cell? ⟨g,1,none⟩ = some x1∧W.cell? ⟨g,2,none⟩ = some x2∧W.cell? ⟨g,3,none⟩ = some x3∧W.cell? ⟨g,4,none⟩ = some x4∧W.cell? ⟨g,5,none⟩ = some x5∧W.cell? ⟨g,6,none⟩ = some x6∧W.cell? ⟨g,7,none⟩ = some x7∧W.cell? ⟨g,8,none⟩ = some x8∧W.frozen? ⟨g,0,none⟩ = false∧W.frozen? ⟨g,1,none⟩ = false∧W.frozen? ⟨g,2,none⟩ = false∧W.frozen? ⟨g,3,none⟩ = false∧W.frozen? ⟨g,4,none⟩ = false∧W.frozen? ⟨g,5,none⟩ = false∧W.frozen? ⟨g,6,none⟩ = false∧W.frozen? ⟨g,7,none⟩ = false∧W.frozen? ⟨g,8,none⟩ = false:=⟨(ah h 0).trans rfl,(ah h 1).trans rfl,(ah h 2).trans rfl,(ah h 3).trans rfl,(ah h 4).trans rfl,(ah h 5).trans rfl,(ah h 6).trans rfl,(ah h 7).trans rfl,(ah h 8).trans rfl,bf h 0,bf h 1,bf h 2,bf h 3,bf h 4,bf h 5,bf h 6,bf h 7,bf h 8⟩
theorem uw {W:World} {g:Nat} {x0 x1 x2 x3 x4 x5 x6 x7 x8:Value} {T:TypeId} {q:Prop} (h:W.heap[g]? = some (.cells #[x0,x1,x2,x3,x4,x5,x6,x7,x8] T (0,0))) (r:q):W.cell? ⟨g,0,none⟩ = some x0∧W.cell? ⟨g,1,none⟩ = some x1∧W.cell? ⟨g,2,none⟩ = some x2∧W.cell? ⟨g,3,none⟩ = some x3∧W.cell? ⟨g,4,none⟩ = some x4∧W.cell? ⟨g,5,none⟩ = some x5∧W.cell? ⟨g,6,none⟩ = some x6∧W.cell? ⟨g,7,none⟩ = some x7∧W.cell? ⟨g,8,none⟩ = some x8∧q:=⟨(ah h 0).trans rfl,(ah h 1).trans rfl,(ah h 2).trans rfl,(ah h 3).trans rfl,(ah h 4).trans rfl,(ah h 5).trans rfl,(ah h 6).trans rfl,(ah h 7).trans rfl,(ah h 8).trans rfl,r⟩
theorem zq0 {p:Prop} (h:p:=by rw [← Fx _ _ 1 (by omega)];exact hc 1 _ rfl):p:=h
theorem fG {p:Prop} (h:p:=by first|(go_simp;done)|(go_simp;rfl)):p:=h
theorem lW {p:Prop} (h:p:=by first|rfl|(simp [kX,kY] <;> rfl)|(simp [*,kX,kY] <;> rfl)):p:=h
theorem nM {p:Prop} (h:p:=by first|rfl|(simp;done)|(simp [*];done)):p:=h
theorem Xo {p:Prop} (h:p:=by repeat (first|exact vo.refl _|apply vo.step)):p:=h
theorem aM {p:Prop} (h:p:=by kernel_rfl):p:=h
theorem ji {p:Prop} (h:p:=by (try simp only [List.map_toArray,List.map_cons,List.map_nil]);first|done|rfl|(simp only [List.length_drop,List.length_take];rfl)):p:=h
theorem zq7 {p:Prop} (h:p:=by first|omega|exact Nat.le_refl _):p:=h
theorem mq {p:Prop} (h:p:=by first|(with_reducible assumption)|assumption):p:=h
theorem zq9 {p:Prop} (h:p:=by show Act.put _ (some 116) _ = _;simp only [Act.put,List.setIfInBounds_toArray,List.set_cons_zero,List.set_cons_succ,ib,ig];rfl):p:=h
theorem aGI {p:Prop} (h:p:=by show Act.put _ (some 130) _ = _;simp only [Act.put,List.setIfInBounds_toArray,List.set_cons_zero,List.set_cons_succ,ib,ig];rfl):p:=h
theorem Mi {p:Prop} (h:p:=by have:=JP.out;omega):p:=h
theorem anW {p:Prop} (h:p:=by first|rfl|(simp [kX,kY] <;> rfl)|(simp only [← Jb];first|rfl|(simp [kX,kY] <;> rfl))|(simp [*,kX,kY] <;> rfl)):p:=h
theorem anu {p:Prop} (h:p:=by first|exact Kd.aaG _ _ _ _ _|exact Kd.a4j _ _ _ _ _|exact Kd.a4k _ _ _ _ _|exact Kd.a4l _ _ _ _ _|exact Kd.a4m _ _ _ _ _):p:=h
theorem aGJ {p:Prop} (h:p:=by (with_reducible repeat (first|apply Kd.mY|apply Kd.mZ|apply Kd.mg));exact Ah.out):p:=h
theorem TF {p:Prop} (h:p:=by rw [HR.out];rfl):p:=h
theorem UF {p:Prop} (h:p:=by repeat (first|exact Below.refl _ _|apply bA|apply bO|apply qy)):p:=h
theorem alA {p:Prop} (h:p:=by have h_:=gT w (.cells #[U Z s.nx,U Z s.ny,U Z s.cell,U Z s.slot,U Z s.slots,U Z s.layers,U Z s.most,.slice A7 s.shores.length c7,.slice A8 s.currents.length c8] 25);first|exact h_|(simp only [World.size_alloc] at h_;exact h_)):p:=h
theorem yY {p:Prop} (h:p:=by rw [HZ.out];rfl):p:=h
theorem aBe {p:Prop} (h:p:=by have h_:=gT w (.cells #[U Z a.f0,U Z a.f1] 27);first|exact h_|(simp only [World.size_alloc] at h_;exact h_)):p:=h
theorem aBm {p:Prop} (h:p:=by show Act.put _ (some 9) _ = _;simp only [Act.put,List.setIfInBounds_toArray,List.set_cons_zero,List.set_cons_succ,ib,ig];rfl):p:=h
theorem aaN {p:Prop} (h:p:=by simp only [List.map_toArray,List.map_cons,List.map_nil];rfl):p:=h
theorem alI {p:Prop} (h:p:=by show Act.put _ (some 31) _ = _;simp only [Act.put,List.setIfInBounds_toArray,List.set_cons_zero,List.set_cons_succ,ib,ig];rfl):p:=h
theorem aBp {p:Prop} (h:p:=by have h_:=gT w (.cells #[.pointer (some ⟨b,0,none⟩)] 104);first|exact h_|(simp only [World.size_alloc] at h_;exact h_)):p:=h
theorem aBq {p:Prop} (h:p:=by have h_:=gT (w.alloc (.cells #[.pointer (some ⟨b,0,none⟩)] 104)) (.cells #[U Z x.f0.f0,U Z x.f0.f1,U Z x.f1.f0,U Z x.f1.f1] 31);first|exact h_|(simp only [World.size_alloc] at h_;exact h_)):p:=h
theorem ajW {p:Prop} (h:p:=by show Act.put _ (some 16) _ = _;simp only [Act.put,List.setIfInBounds_toArray,List.set_cons_zero,List.set_cons_succ,ib,ig];rfl):p:=h
theorem al4 {p:Prop} (h:p:=by have h_:=gT w (.cells #[U Z x.f0.f0,U Z x.f0.f1,U Z x.f1.f0,U Z x.f1.f1] 31);first|exact h_|(simp only [World.size_alloc] at h_;exact h_)):p:=h
theorem adX {p:Prop} (h:p:=by rw [HV2.out,HZ.out];rfl):p:=h
theorem adZ {p:Prop} (h:p:=by show Act.put _ (some 13) _ = _;simp only [Act.put,List.setIfInBounds_toArray,List.set_cons_zero,List.set_cons_succ,ib,ig];rfl):p:=h
theorem ajZ {p:Prop} (h:p:=by show Act.put _ (some 11) _ = _;simp only [Act.put,List.setIfInBounds_toArray,List.set_cons_zero,List.set_cons_succ,ib,ig];rfl):p:=h
theorem aqj {p:Prop} (h:p:=by first|(simp only [xC,Act.put,List.setIfInBounds_toArray,List.set_cons_zero,List.set_cons_succ];done)|(simp only [xC,Act.put,List.setIfInBounds_toArray,List.set_cons_zero,List.set_cons_succ];rfl)):p:=h
theorem al9 {p:Prop} (h:p:=by show Act.put _ (some 29) _ = _;simp only [Act.put,List.setIfInBounds_toArray,List.set_cons_zero,List.set_cons_succ,ib,ig];rfl):p:=h
theorem aBE {p:Prop} (h:p:=by show Act.put _ (some 12) _ = _;simp only [Act.put,List.setIfInBounds_toArray,List.set_cons_zero,List.set_cons_succ,ib,ig];rfl):p:=h
theorem aBF {p:Prop} (h:p:=by show Act.put _ (some 43) _ = _;simp only [Act.put,List.setIfInBounds_toArray,List.set_cons_zero,List.set_cons_succ,ib,ig];rfl):p:=h
theorem ayB {p:Prop} (h:p:=by exact (oq.c2 (show Kd.M k27 _ _ _ (⟨ai,aj⟩:ky) [U Z ai,U Z aj] from (yL _ _ _ (⟨ai,aj⟩:ky))) (oq.c2 (show Kd.M k27 _ _ _ (⟨aC,aD⟩:ky) [U Z aC,U Z aD] from (yL _ _ _ (⟨aC,aD⟩:ky))) (oq.none _ _)))):p:=h
theorem aBK {p:Prop} (h:p:=by show Act.put _ (some 20) _ = _;simp only [Act.put,List.setIfInBounds_toArray,List.set_cons_zero,List.set_cons_succ,ib,ig];rfl):p:=h
theorem ame {p:Prop} (h:p:=by show Act.put _ (some 24) _ = _;simp only [Act.put,List.setIfInBounds_toArray,List.set_cons_zero,List.set_cons_succ,ib,ig];rfl):p:=h
theorem aBL {p:Prop} (h:p:=by show Act.put _ (some 28) _ = _;simp only [Act.put,List.setIfInBounds_toArray,List.set_cons_zero,List.set_cons_succ,ib,ig];rfl):p:=h
theorem aBM {p:Prop} (h:p:=by first|rfl|(simp [kX,kY] <;> rfl)|(simp only [← Xa,← Xb,← M3];first|rfl|(simp [kX,kY] <;> rfl))|(simp [*,kX,kY] <;> rfl)):p:=h
theorem aqr {p:Prop} (h:p:=by have h_:=gT (w.alloc (.cells #[U Z s.nx,U Z s.ny,U Z s.cell,U Z s.slot,U Z s.slots,U Z s.layers,U Z s.most,.slice A7 s.shores.length c7,.slice A8 s.currents.length c8] 25)) (.cells #[U Z v.speed,U Z v.dive,U Z v.use.f0,U Z v.use.f1,U Z v.drift.f0,U Z v.drift.f1,U Z v.reserve] 29);first|exact h_|(simp only [World.size_alloc] at h_;exact h_)):p:=h
theorem ayG {p:Prop} (h:p:=by have h_:=gT ((w.alloc (.cells #[U Z s.nx,U Z s.ny,U Z s.cell,U Z s.slot,U Z s.slots,U Z s.layers,U Z s.most,.slice A7 s.shores.length c7,.slice A8 s.currents.length c8] 25)).alloc (.cells #[U Z v.speed,U Z v.dive,U Z v.use.f0,U Z v.use.f1,U Z v.drift.f0,U Z v.drift.f1,U Z v.reserve] 29)) (.cells #[U Z x.f0.f0,U Z x.f0.f1,U Z x.f1.f0,U Z x.f1.f1] 31);first|exact h_|(simp only [World.size_alloc] at h_;exact h_)):p:=h
theorem amA {p:Prop} (h:p:=by show Act.put _ (some 14) _ = _;simp only [Act.put,List.setIfInBounds_toArray,List.set_cons_zero,List.set_cons_succ,ib,ig];rfl):p:=h
theorem ayO {p:Prop} (h:p:=by show Act.put _ (some 3) _ = _;simp only [Act.put,List.setIfInBounds_toArray,List.set_cons_zero,List.set_cons_succ,ib,ig];rfl):p:=h
theorem M9 {p:Prop} (h:p:=by simp only [xC,Act.put,List.setIfInBounds_toArray,List.set_cons_zero,List.set_cons_succ]):p:=h
theorem ayP {p:Prop} (h:p:=by (with_reducible repeat (first|apply Kd.mY|apply Kd.mZ|apply Kd.mg));exact mV.out):p:=h
theorem ayQ {p:Prop} (h:p:=by (with_reducible repeat (first|apply Kd.mY|apply Kd.mZ|apply Kd.mg));exact mW.out):p:=h
theorem ayR {p:Prop} (h:p:=by exact (oq.one (show Kd.M (Kd.int .i64) _ _ _ 0 [U Z 0] from rfl) (oq.one (show Kd.M (Kd.int .i64) _ _ _ 707 [U Z 707] from rfl) (oq.one (show Kd.M (Kd.int .i64) _ _ _ 1000 [U Z 1000] from rfl) (oq.one (show Kd.M (Kd.int .i64) _ _ _ 707 [U Z 707] from rfl) (oq.one (show Kd.M (Kd.int .i64) _ _ _ 0 [U Z 0] from rfl) (oq.one (show Kd.M (Kd.int .i64) _ _ _ (-707) [U Z (-707)] from rfl) (oq.one (show Kd.M (Kd.int .i64) _ _ _ (-1000) [U Z (-1000)] from rfl) (oq.one (show Kd.M (Kd.int .i64) _ _ _ (-707) [U Z (-707)] from rfl) (oq.one (show Kd.M (Kd.int .i64) _ _ _ 0 [U Z 0] from rfl) (oq.none _ _))))))))))):p:=h
theorem ayS {p:Prop} (h:p:=by exact (oq.one (show Kd.M (Kd.int .i64) _ _ _ 1000 [U Z 1000] from rfl) (oq.one (show Kd.M (Kd.int .i64) _ _ _ 707 [U Z 707] from rfl) (oq.one (show Kd.M (Kd.int .i64) _ _ _ 0 [U Z 0] from rfl) (oq.one (show Kd.M (Kd.int .i64) _ _ _ (-707) [U Z (-707)] from rfl) (oq.one (show Kd.M (Kd.int .i64) _ _ _ (-1000) [U Z (-1000)] from rfl) (oq.one (show Kd.M (Kd.int .i64) _ _ _ (-707) [U Z (-707)] from rfl) (oq.one (show Kd.M (Kd.int .i64) _ _ _ 0 [U Z 0] from rfl) (oq.one (show Kd.M (Kd.int .i64) _ _ _ 707 [U Z 707] from rfl) (oq.one (show Kd.M (Kd.int .i64) _ _ _ 0 [U Z 0] from rfl) (oq.none _ _))))))))))):p:=h
theorem aj5 {p:Prop} (h:p:=by (with_reducible repeat (first|apply Kd.mY|apply Kd.mZ|apply Kd.mg));exact I7.out):p:=h
theorem aCA {p:Prop} (h:p:=by first|rfl|(simp [kX,kY] <;> rfl)|(simp only [← Jb,← Pb];first|rfl|(simp [kX,kY] <;> rfl))|(simp [*,kX,kY] <;> rfl)):p:=h
theorem azk {p:Prop} (h:p:=by show Act.put _ (some 49) _ = _;simp only [Act.put,List.setIfInBounds_toArray,List.set_cons_zero,List.set_cons_succ,ib,ig];rfl):p:=h
theorem azl {p:Prop} (h:p:=by show Act.put _ (some 50) _ = _;simp only [Act.put,List.setIfInBounds_toArray,List.set_cons_zero,List.set_cons_succ,ib,ig];rfl):p:=h
theorem aCM {p:Prop} (h:p:=by (try simp only [List.map_toArray,List.map_cons,List.map_nil]);first|done|(simp only [Wh];rfl)|rfl|(simp only [List.length_drop,List.length_take];rfl)):p:=h
theorem ara {p:Prop} (h:p:=by have:=JP.out;have:=aek.out;have:=HK3.out;omega):p:=h
theorem azo {p:Prop} (h:p:=by show Act.put _ (some 32) _ = _;simp only [Act.put,List.setIfInBounds_toArray,List.set_cons_zero,List.set_cons_succ,ib,ig];rfl):p:=h
theorem aDr {p:Prop} (h:p:=by show Act.put _ (some 26) _ = _;simp only [Act.put,List.setIfInBounds_toArray,List.set_cons_zero,List.set_cons_succ,ib,ig];rfl):p:=h
theorem aDs {p:Prop} (h:p:=by show Act.put _ (some 30) _ = _;simp only [Act.put,List.setIfInBounds_toArray,List.set_cons_zero,List.set_cons_succ,ib,ig];rfl):p:=h
theorem att {p:Prop} (h:p:=by show Act.put _ (some 37) _ = _;simp only [Act.put,List.setIfInBounds_toArray,List.set_cons_zero,List.set_cons_succ,ib,ig];rfl):p:=h
theorem ab6 {p:Prop} (h:p:=by (with_reducible repeat (first|apply Kd.mY|apply Kd.mZ|apply Kd.mg));exact pF.out):p:=h
theorem atu {p:Prop} (h:p:=by show Act.put _ (some 15) _ = _;simp only [Act.put,List.setIfInBounds_toArray,List.set_cons_zero,List.set_cons_succ,ib,ig];rfl):p:=h
theorem auI {p:Prop} (h:p:=by have:=World.block_lt_of_cell? _ _ wE;first|rwa [add_block] at this|exact this):p:=h
theorem ab7 {p:Prop} (h:p:=by first|exact Nat.ne_of_lt (Nat.lt_of_lt_of_le auI BA.out)|(rw [add_block];exact Nat.ne_of_lt (Nat.lt_of_lt_of_le auI BA.out))|(show (Addr.add _ _).block≠_;rw [add_block];exact Nat.ne_of_lt (Nat.lt_of_lt_of_le auI BA.out))|(dsimp only;exact Nat.ne_of_lt (Nat.lt_of_lt_of_le auI BA.out))):p:=h
theorem auJ {p:Prop} (h:p:=by have:=World.block_lt_of_cell? _ _ wD;first|rwa [add_block] at this|exact this):p:=h
theorem ab8 {p:Prop} (h:p:=by first|exact Nat.ne_of_lt (Nat.lt_of_lt_of_le auJ BA.out)|(rw [add_block];exact Nat.ne_of_lt (Nat.lt_of_lt_of_le auJ BA.out))|(show (Addr.add _ _).block≠_;rw [add_block];exact Nat.ne_of_lt (Nat.lt_of_lt_of_le auJ BA.out))|(dsimp only;exact Nat.ne_of_lt (Nat.lt_of_lt_of_le auJ BA.out))):p:=h
theorem atz {p:Prop} (h:p:=by show Act.put _ (some 23) _ = _;simp only [Act.put,List.setIfInBounds_toArray,List.set_cons_zero,List.set_cons_succ,ib,ig];rfl):p:=h
theorem aca {p:Prop} (h:p:=by (with_reducible repeat (first|apply Kd.mY|apply Kd.mZ|apply Kd.mg));exact yH.out):p:=h
theorem auK {p:Prop} (h:p:=by have:=World.block_lt_of_cell? _ _ wG;first|rwa [add_block] at this|exact this):p:=h
theorem atA {p:Prop} (h:p:=by first|exact Nat.ne_of_lt (Nat.lt_of_lt_of_le auK BD.out)|(rw [add_block];exact Nat.ne_of_lt (Nat.lt_of_lt_of_le auK BD.out))|(show (Addr.add _ _).block≠_;rw [add_block];exact Nat.ne_of_lt (Nat.lt_of_lt_of_le auK BD.out))|(dsimp only;exact Nat.ne_of_lt (Nat.lt_of_lt_of_le auK BD.out))):p:=h
theorem auL {p:Prop} (h:p:=by have:=World.block_lt_of_cell? _ _ wF;first|rwa [add_block] at this|exact this):p:=h
theorem atB {p:Prop} (h:p:=by first|exact Nat.ne_of_lt (Nat.lt_of_lt_of_le auL BD.out)|(rw [add_block];exact Nat.ne_of_lt (Nat.lt_of_lt_of_le auL BD.out))|(show (Addr.add _ _).block≠_;rw [add_block];exact Nat.ne_of_lt (Nat.lt_of_lt_of_le auL BD.out))|(dsimp only;exact Nat.ne_of_lt (Nat.lt_of_lt_of_le auL BD.out))):p:=h
theorem aGK {p:Prop} (h:p:=by have h_:=gT wr (.cells #[U Z d.f0,U Z d.f1] 33);first|exact h_|(simp only [World.size_alloc] at h_;exact h_)):p:=h
theorem auM {p:Prop} (h:p:=by exact (oq.c2 (show Kd.M k27 _ _ _ (⟨ai,aj⟩:ky) [U Z ai,U Z aj] from (yL _ _ _ (⟨ai,aj⟩:ky))) (oq.c2 (show Kd.M k27 _ _ _ (⟨aI,aG⟩:ky) [U Z aI,U Z aG] from (yL _ _ _ (⟨aI,aG⟩:ky))) (oq.none _ _)))):p:=h
theorem azZ {p:Prop} (h:p:=by (with_reducible repeat (first|apply Kd.mY|apply Kd.mZ|apply Kd.mg));exact oK.out):p:=h
theorem az0 {p:Prop} (h:p:=by have:=HJ9.out;have:=HK2.out;first|omega|exact Nat.le_refl _):p:=h
theorem auN {p:Prop} (h:p:=by have:=World.block_lt_of_cell? _ _ wH;first|rwa [add_block] at this|exact this):p:=h
theorem Lr {p:Prop} (h:p:=by first|exact Nat.ne_of_lt (Nat.lt_of_lt_of_le auN qV.out)|(rw [add_block];exact Nat.ne_of_lt (Nat.lt_of_lt_of_le auN qV.out))|(show (Addr.add _ _).block≠_;rw [add_block];exact Nat.ne_of_lt (Nat.lt_of_lt_of_le auN qV.out))|(dsimp only;exact Nat.ne_of_lt (Nat.lt_of_lt_of_le auN qV.out))):p:=h
theorem auO {p:Prop} (h:p:=by have:=World.block_lt_of_cell? _ _ wI;first|rwa [add_block] at this|exact this):p:=h
theorem Ls {p:Prop} (h:p:=by first|exact Nat.ne_of_lt (Nat.lt_of_lt_of_le auO qV.out)|(rw [add_block];exact Nat.ne_of_lt (Nat.lt_of_lt_of_le auO qV.out))|(show (Addr.add _ _).block≠_;rw [add_block];exact Nat.ne_of_lt (Nat.lt_of_lt_of_le auO qV.out))|(dsimp only;exact Nat.ne_of_lt (Nat.lt_of_lt_of_le auO qV.out))):p:=h
theorem auP {p:Prop} (h:p:=by have:=World.block_lt_of_cell? _ _ wJ;first|rwa [add_block] at this|exact this):p:=h
theorem Lt {p:Prop} (h:p:=by first|exact Nat.ne_of_lt (Nat.lt_of_lt_of_le auP qV.out)|(rw [add_block];exact Nat.ne_of_lt (Nat.lt_of_lt_of_le auP qV.out))|(show (Addr.add _ _).block≠_;rw [add_block];exact Nat.ne_of_lt (Nat.lt_of_lt_of_le auP qV.out))|(dsimp only;exact Nat.ne_of_lt (Nat.lt_of_lt_of_le auP qV.out))):p:=h
theorem auQ {p:Prop} (h:p:=by have:=World.block_lt_of_cell? _ _ wK;first|rwa [add_block] at this|exact this):p:=h
theorem Lu {p:Prop} (h:p:=by first|exact Nat.ne_of_lt (Nat.lt_of_lt_of_le auQ qV.out)|(rw [add_block];exact Nat.ne_of_lt (Nat.lt_of_lt_of_le auQ qV.out))|(show (Addr.add _ _).block≠_;rw [add_block];exact Nat.ne_of_lt (Nat.lt_of_lt_of_le auQ qV.out))|(dsimp only;exact Nat.ne_of_lt (Nat.lt_of_lt_of_le auQ qV.out))):p:=h
theorem auR {p:Prop} (h:p:=by have:=World.block_lt_of_cell? _ _ wL;first|rwa [add_block] at this|exact this):p:=h
theorem Lv {p:Prop} (h:p:=by first|exact Nat.ne_of_lt (Nat.lt_of_lt_of_le auR qV.out)|(rw [add_block];exact Nat.ne_of_lt (Nat.lt_of_lt_of_le auR qV.out))|(show (Addr.add _ _).block≠_;rw [add_block];exact Nat.ne_of_lt (Nat.lt_of_lt_of_le auR qV.out))|(dsimp only;exact Nat.ne_of_lt (Nat.lt_of_lt_of_le auR qV.out))):p:=h
theorem auS {p:Prop} (h:p:=by have:=World.block_lt_of_cell? _ _ wM;first|rwa [add_block] at this|exact this):p:=h
theorem Lx {p:Prop} (h:p:=by first|exact Nat.ne_of_lt (Nat.lt_of_lt_of_le auS qV.out)|(rw [add_block];exact Nat.ne_of_lt (Nat.lt_of_lt_of_le auS qV.out))|(show (Addr.add _ _).block≠_;rw [add_block];exact Nat.ne_of_lt (Nat.lt_of_lt_of_le auS qV.out))|(dsimp only;exact Nat.ne_of_lt (Nat.lt_of_lt_of_le auS qV.out))):p:=h
theorem auT {p:Prop} (h:p:=by show Act.put _ (some 172) _ = _;simp only [Act.put,List.setIfInBounds_toArray,List.set_cons_zero,List.set_cons_succ,ib,ig];rfl):p:=h
theorem acN {p:Prop} (h:p:=by (try simp only [List.map_toArray,List.map_cons,List.map_nil]);first|done|(simp only [ZB];rfl)|rfl|(simp only [List.length_drop,List.length_take];rfl)):p:=h
theorem auU {p:Prop} (h:p:=by show Act.put _ (some 173) _ = _;simp only [Act.put,List.setIfInBounds_toArray,List.set_cons_zero,List.set_cons_succ,ib,ig];rfl):p:=h
theorem auV {p:Prop} (h:p:=by show Act.put _ (some 192) _ = _;simp only [Act.put,List.setIfInBounds_toArray,List.set_cons_zero,List.set_cons_succ,ib,ig];rfl):p:=h
theorem auW {p:Prop} (h:p:=by show Act.put _ (some 193) _ = _;simp only [Act.put,List.setIfInBounds_toArray,List.set_cons_zero,List.set_cons_succ,ib,ig];rfl):p:=h
theorem auX {p:Prop} (h:p:=by show Act.put _ (some 207) _ = _;simp only [Act.put,List.setIfInBounds_toArray,List.set_cons_zero,List.set_cons_succ,ib,ig];rfl):p:=h
theorem auY {p:Prop} (h:p:=by have:=HJ9.out;have:=HK2.out;have:=anX.out;omega):p:=h
theorem auZ {p:Prop} (h:p:=by have:=hV.speed;have:=hS.most;omega):p:=h
end Go.Proofs.YtmhaiihjfgfaoaaW.PrintMore
end
section
namespace Go.Proofs.Ytmhaiihjfgfaoaa.Pr
open Go.RowKit Go.Proofs.YtmhaiihjfgfaoaaW.PrintWords Go.Proofs.YtmhaiihjfgfaoaaW.PrintLast Go.Proofs.YtmhaiihjfgfaoaaW.PrintMore
attribute [local go_sem] gp gq iA iB gu
set_option linter.unusedVariables false
set_option linter.unusedSimpArgs false
def aGL:Option Int→Value
 |none=>.nilIface
 |some c=>.iface 0 (U Z c)
theorem kX:aGL none = .nilIface:=rfl
theorem kY (c:Int):aGL (some c) = .iface 0 (U Z c):=rfl
theorem aGM:(Try.prog.info? 4).map (fun i=>(i.zero,i.size,i.bytes)) = some (some (.bool false),1,1):=by kernel_rfl
theorem anA:(Try.prog.info? 27).map (fun i=>(i.zero,i.size,i.bytes)) = some (some (.agg #[(U Z 0),(U Z 0)]),2,16):=by kernel_rfl
theorem anz:(Try.prog.info? 31).map (fun i=>(i.zero,i.size,i.bytes)) = some (some (.agg #[(U Z 0),(U Z 0),(U Z 0),(U Z 0)]),4,32):=by kernel_rfl
theorem az1:(Try.prog.info? 40).map (fun i=>(i.zero,i.size,i.bytes)) = some (some (.agg #[(U Z 0),(U Z 0),(U Z 0),(U Z 0)]),4,32):=by kernel_rfl
structure ky where
 f0:Int
 f1:Int
def z27:ky:=⟨(0:Int),(0:Int)⟩
def k27:Kd ky:=Kd.iso (Kd.pair (Kd.int .i64) (Kd.int .i64)) (fun x:ky=>(x.f0,x.f1))
theorem BH {w:World} {x:ky} {cs:List Value} (h:k27.K w x cs):cs = [U Z x.f0,U Z x.f1]:=by
 obtain ⟨_,_,rfl,rfl,rfl⟩:=h
 exact rfl
theorem yL (w:World) (base:Nat) (ok:Nat→Prop) (x:ky):k27.M w base ok x [U Z x.f0,U Z x.f1]:=⟨[U Z x.f0],[U Z x.f1],rfl,rfl,rfl⟩
def ql (xs:List ky) (i:Int):ky:=xs.getD i.toNat z27
theorem ZC {w:World} {A:Option Addr} {n:Nat} {xs:List ky} (h:Kd.C k27 w A n xs) (i:Int) (h0:0≤i) (h1:i < n):∃ ad,A = some ad∧w.cell? (ad.add (i.toNat*2)) = some (U Z (ql xs i).f0)∧w.cell? ⟨(ad.add (i.toNat*2)).block,(ad.add (i.toNat*2)).off+1,none⟩ = some (U Z (ql xs i).f1):=by
 obtain ⟨ad,c,e,_,hK,hc0⟩:=Kd.afh h z27 i h0 h1
 have hc:∀ j u,c[j]? = some u→w.cell? (ad.add (i.toNat*2+j)) = some u:=hc0
 obtain rfl:=BH hK
 exact ⟨ad,e,hc 0 _ rfl,zq0⟩
structure rq where
 f0:ky
 f1:ky
def z40:rq:=⟨z27,z27⟩
def GI:Kd rq:=Kd.iso (Kd.pair k27 k27) (fun x:rq=>(x.f0,x.f1))
theorem anY {w:World} {x:rq} {cs:List Value} (h:GI.K w x cs):cs = [U Z x.f0.f0,U Z x.f0.f1,U Z x.f1.f0,U Z x.f1.f1]:=by
 obtain ⟨_,_,rfl,s0,s2⟩:=h
 obtain rfl:=BH s0
 obtain rfl:=BH s2
 exact rfl
theorem au0 (w:World) (base:Nat) (ok:Nat→Prop) (x:rq):GI.M w base ok x [U Z x.f0.f0,U Z x.f0.f1,U Z x.f1.f0,U Z x.f1.f1]:=⟨[U Z x.f0.f0,U Z x.f0.f1],[U Z x.f1.f0,U Z x.f1.f1],rfl,(yL w base ok x.f0),(yL w base ok x.f1)⟩
def ay (xs:List rq) (i:Int):rq:=xs.getD i.toNat z40
theorem zo {w:World} {A:Option Addr} {n:Nat} {xs:List rq} (h:Kd.C GI w A n xs) (i:Int) (h0:0≤i) (h1:i < n):∃ ad,A = some ad∧w.cell? (ad.add (i.toNat*4)) = some (U Z (ay xs i).f0.f0)∧w.cell? ⟨(ad.add (i.toNat*4)).block,(ad.add (i.toNat*4)).off+1,none⟩ = some (U Z (ay xs i).f0.f1)∧w.cell? ⟨(ad.add (i.toNat*4)).block,(ad.add (i.toNat*4)).off+2,none⟩ = some (U Z (ay xs i).f1.f0)∧w.cell? ⟨(ad.add (i.toNat*4)).block,(ad.add (i.toNat*4)).off+3,none⟩ = some (U Z (ay xs i).f1.f1):=by
 obtain ⟨ad,c,e,_,hK,hc0⟩:=Kd.afh h z40 i h0 h1
 have hc:∀ j u,c[j]? = some u→w.cell? (ad.add (i.toNat*4+j)) = some u:=hc0
 obtain rfl:=anY hK
 exact ⟨ad,e,hc 0 _ rfl,zq0,by rw [← Fx _ _ 2 (by omega)];exact hc 2 _ rfl,by rw [← Fx _ _ 3 (by omega)];exact hc 3 _ rfl⟩
structure S25 where
 f0:Int
 f1:Int
 f2:Int
 f3:Int
 f4:Int
 f5:Int
 f6:Int
 f7:(List Bool)
 f8:(List rq)
def k25:Kd S25:=Kd.iso (Kd.pair (Kd.int .i64) (Kd.pair (Kd.int .i64) (Kd.pair (Kd.int .i64) (Kd.pair (Kd.int .i64) (Kd.pair (Kd.int .i64) (Kd.pair (Kd.int .i64) (Kd.pair (Kd.int .i64) (Kd.pair (Kd.slice 4 Kd.bool) (Kd.slice 40 GI))))))))) (fun x:S25=>(x.f0,x.f1,x.f2,x.f3,x.f4,x.f5,x.f6,x.f7,x.f8))
theorem anZ {w:World} {x:S25} {cs:List Value} (h:k25.K w x cs):∃ A7 c7 A8 c8,cs = [U Z x.f0,U Z x.f1,U Z x.f2,U Z x.f3,U Z x.f4,U Z x.f5,U Z x.f6,.slice A7 x.f7.length c7,.slice A8 x.f8.length c8]∧x.f7.length≤c7∧Kd.bool.C w A7 x.f7.length x.f7∧x.f8.length≤c8∧GI.C w A8 x.f8.length x.f8:=by
 obtain ⟨_,_,rfl,rfl,⟨_,_,rfl,rfl,⟨_,_,rfl,rfl,⟨_,_,rfl,rfl,⟨_,_,rfl,rfl,⟨_,_,rfl,rfl,⟨_,_,rfl,rfl,⟨_,_,rfl,⟨A7,c7,rfl,l7,g7⟩,⟨A8,c8,rfl,l8,g8⟩⟩⟩⟩⟩⟩⟩⟩⟩:=h
 exact ⟨A7,c7,A8,c8,rfl,l7,g7,l8,g8⟩
structure xN where
 f0:Int
 f1:Int
def z33:xN:=⟨(0:Int),(0:Int)⟩
def k33:Kd xN:=Kd.iso (Kd.pair (Kd.int .i64) (Kd.int .i64)) (fun x:xN=>(x.f0,x.f1))
theorem an0 {w:World} {x:xN} {cs:List Value} (h:k33.K w x cs):cs = [U Z x.f0,U Z x.f1]:=by
 obtain ⟨_,_,rfl,rfl,rfl⟩:=h
 exact rfl
theorem ayI (w:World) (x:xN):k33.K w x [U Z x.f0,U Z x.f1]:=⟨[U Z x.f0],[U Z x.f1],rfl,rfl,rfl⟩
def bJ (xs:List xN) (i:Int):xN:=xs.getD i.toNat z33
theorem kE {w:World} {A:Option Addr} {n:Nat} {xs:List xN} (h:Kd.C k33 w A n xs) (i:Int) (h0:0≤i) (h1:i < n):∃ ad,A = some ad∧w.cell? (ad.add (i.toNat*2)) = some (U Z (bJ xs i).f0)∧w.cell? ⟨(ad.add (i.toNat*2)).block,(ad.add (i.toNat*2)).off+1,none⟩ = some (U Z (bJ xs i).f1):=by
 obtain ⟨ad,c,e,_,hK,hc0⟩:=Kd.afh h z33 i h0 h1
 have hc:∀ j u,c[j]? = some u→w.cell? (ad.add (i.toNat*2+j)) = some u:=hc0
 obtain rfl:=an0 hK
 exact ⟨ad,e,hc 0 _ rfl,zq0⟩
structure S29 where
 f0:Int
 f1:Int
 f2:ky
 f3:ky
 f4:Int
def k29:Kd S29:=Kd.iso (Kd.pair (Kd.int .i64) (Kd.pair (Kd.int .i64) (Kd.pair k27 (Kd.pair k27 (Kd.int .i64))))) (fun x:S29=>(x.f0,x.f1,x.f2,x.f3,x.f4))
theorem an1 {w:World} {x:S29} {cs:List Value} (h:k29.K w x cs):cs = [U Z x.f0,U Z x.f1,U Z x.f2.f0,U Z x.f2.f1,U Z x.f3.f0,U Z x.f3.f1,U Z x.f4]:=by
 obtain ⟨_,_,rfl,rfl,⟨_,_,rfl,rfl,⟨_,_,rfl,s2,⟨_,_,rfl,s4,rfl⟩⟩⟩⟩:=h
 obtain rfl:=BH s2
 obtain rfl:=BH s4
 exact rfl
structure jf where
 f0:ky
 f1:ky
def z31:jf:=⟨z27,z27⟩
def k31:Kd jf:=Kd.iso (Kd.pair k27 k27) (fun x:jf=>(x.f0,x.f1))
theorem UG {w:World} {x:jf} {cs:List Value} (h:k31.K w x cs):cs = [U Z x.f0.f0,U Z x.f0.f1,U Z x.f1.f0,U Z x.f1.f1]:=by
 obtain ⟨_,_,rfl,s0,s2⟩:=h
 obtain rfl:=BH s0
 obtain rfl:=BH s2
 exact rfl
theorem ahL (w:World) (base:Nat) (ok:Nat→Prop) (x:jf):k31.M w base ok x [U Z x.f0.f0,U Z x.f0.f1,U Z x.f1.f0,U Z x.f1.f1]:=⟨[U Z x.f0.f0,U Z x.f0.f1],[U Z x.f1.f0,U Z x.f1.f1],rfl,(yL w base ok x.f0),(yL w base ok x.f1)⟩
def iJ (xs:List jf) (i:Int):jf:=xs.getD i.toNat z31
theorem aeB {w:World} {A:Option Addr} {n:Nat} {xs:List jf} (h:Kd.C k31 w A n xs) (i:Int) (h0:0≤i) (h1:i < n):∃ ad,A = some ad∧w.cell? (ad.add (i.toNat*4)) = some (U Z (iJ xs i).f0.f0)∧w.cell? ⟨(ad.add (i.toNat*4)).block,(ad.add (i.toNat*4)).off+1,none⟩ = some (U Z (iJ xs i).f0.f1)∧w.cell? ⟨(ad.add (i.toNat*4)).block,(ad.add (i.toNat*4)).off+2,none⟩ = some (U Z (iJ xs i).f1.f0)∧w.cell? ⟨(ad.add (i.toNat*4)).block,(ad.add (i.toNat*4)).off+3,none⟩ = some (U Z (iJ xs i).f1.f1):=by
 obtain ⟨ad,c,e,_,hK,hc0⟩:=Kd.afh h z31 i h0 h1
 have hc:∀ j u,c[j]? = some u→w.cell? (ad.add (i.toNat*4+j)) = some u:=hc0
 obtain rfl:=UG hK
 exact ⟨ad,e,hc 0 _ rfl,zq0,by rw [← Fx _ _ 2 (by omega)];exact hc 2 _ rfl,by rw [← Fx _ _ 3 (by omega)];exact hc 3 _ rfl⟩
structure S81 where
 f0:jf
 f1:Int
 f2:Int
def k81:Kd S81:=Kd.iso (Kd.pair k31 (Kd.pair (Kd.int .i64) (Kd.int .i64))) (fun x:S81=>(x.f0,x.f1,x.f2))
theorem an2 {w:World} {x:S81} {cs:List Value} (h:k81.K w x cs):cs = [U Z x.f0.f0.f0,U Z x.f0.f0.f1,U Z x.f0.f1.f0,U Z x.f0.f1.f1,U Z x.f1,U Z x.f2]:=by
 obtain ⟨_,_,rfl,s0,⟨_,_,rfl,rfl,rfl⟩⟩:=h
 obtain rfl:=UG s0
 exact rfl
def iW.f (ai:Int) (aj:Int) (aC:Int) (aD:Int) (aJ:Int) (aH:Int) (aK:Int) (aT:List Bool) (ak:List (rq)):Option (Bool):=if (aT.length:Int) > 200 then (some true) else (some (decide ((ak.length:Int) > 3000)))
set_option maxHeartbeats 8000000 in
set_option maxRecDepth 100000 in
theorem iW.calls (ai:Int) (aj:Int) (aC:Int) (aD:Int) (aJ:Int) (aH:Int) (aK:Int) (dW:Option Addr) (dN:Nat) (aT:List Bool) (dZ:Option Addr) (dO:Nat) (ak:List (rq)) (r:Bool) (w:World) (jT:Kd.C Kd.bool w dW aT.length aT) (jU:aT.length≤dN) (jV:Kd.C GI w dZ ak.length ak) (jW:ak.length≤dO) (h:iW.f ai aj aC aD aJ aH aK aT ak = some r):
 Calls Try.prog 22 #[.agg #[U Z ai,U Z aj,U Z aC,U Z aD,U Z aJ,U Z aH,U Z aK,.slice dW aT.length dN,.slice dZ ak.length dO]] w fun e w'=>e = .returned (.bool r)∧Below w.heap.size w w':=by
 have BV:=Try.underlying25
 have ik:=aa.mk jT
 have iC:=aa.mk jU
 clear jT jU
 have gN:=aa.mk jV
 have iD:=aa.mk jW
 clear jV jW
 have HB:=aa.mk (Below.refl w.heap.size w)
 have H:(if (aT.length:Int) > 200 then (some true) else (some (decide ((ak.length:Int) > 3000)))) = some r:=h
 clear h
 by_cases c2:(aT.length:Int) > 200
 ·rw [if_pos c2] at H
  have abz:decide (200 < (aT.length:Int)) = true:=decide_eq_true c2
  have aX4:decide (200 < aT.length) = true:=decide_eq_true (by omega)
  clear c2
  obtain rfl:=Option.some.inj H
  go_enter Try.func22,Try.ntmps22
  go_wp2_with (first|((with_reducible refine aA (N:=1) rfl ?_);(try (refine oW (by rfl) ?_;dsimp only));refine au (by rfl) (N:=1) (by rfl) (cs:=#[U Z ai,U Z aj,U Z aC,U Z aD,U Z aJ,U Z aH,U Z aK,.slice dW aT.length dN,.slice dZ ak.length dO]) (t:=25) fG ?_;intro aGP hg w3 hbox hb;have an3:=aa.mk (hbox);have aGQ:=bS HB hg;have aGR:=bS HB hg;replace HB:=cO HB hb;clear hb hbox hg;obtain ⟨Xk,Xl,an4,an5,az2,az3,az4,aX5,aX6,Xm,Xn,an6,an7,az5,az6,az7,aX7,aX8⟩:=jA an3.out))
  go_ret
  exact ⟨lW,gL⟩
 ·rw [if_neg c2] at H
  have abz:decide (200 < (aT.length:Int)) = false:=decide_eq_false c2
  have aX4:decide (200 < aT.length) = false:=decide_eq_false (by omega)
  clear c2
  obtain rfl:=Option.some.inj H
  go_enter Try.func22,Try.ntmps22
  go_wp2_with (first|((with_reducible refine aA (N:=1) rfl ?_);(try (refine oW (by rfl) ?_;dsimp only));refine au (by rfl) (N:=1) (by rfl) (cs:=#[U Z ai,U Z aj,U Z aC,U Z aD,U Z aJ,U Z aH,U Z aK,.slice dW aT.length dN,.slice dZ ak.length dO]) (t:=25) fG ?_;intro aGP hg w5 hbox hb;have an3:=aa.mk (hbox);have aGQ:=bS HB hg;have aGR:=bS HB hg;replace HB:=cO HB hb;clear hb hbox hg;obtain ⟨ayW,ayX,ayY,ayZ,ay0,ay1,ay2,ay3,ay4,ay5,ay6,ay7,ay8,ay9,aza,azb,azc,azd⟩:=jA an3.out))
  go_ret
  exact ⟨lW,gL⟩
def aW.f (a0:Int) (a1:Int) (a2:Int):Option (Bool):=if a0 ≥ a1 then (some (decide (a0≤a2))) else (some false)
set_option maxHeartbeats 8000000 in
set_option maxRecDepth 100000 in
theorem aW.calls (a0:Int) (a1:Int) (a2:Int) (r:Bool) (w:World) (h:aW.f a0 a1 a2 = some r):
 Calls Try.prog 112 #[U Z a0,U Z a1,U Z a2] w fun e w'=>e = .returned (.bool r)∧vo w w':=by
 have H:(if a0 ≥ a1 then (some (decide (a0≤a2))) else (some false)) = some r:=h
 clear h
 by_cases c4:a0 ≥ a1
 ·rw [if_pos c4] at H
  have tN:decide (a1≤a0) = true:=decide_eq_true c4
  clear c4
  obtain rfl:=Option.some.inj H
  go_enter Try.func112,Try.ntmps112
  go_wp2
  go_ret
  exact ⟨nM,Xo⟩
 ·rw [if_neg c4] at H
  have tN:decide (a1≤a0) = false:=decide_eq_false c4
  clear c4
  obtain rfl:=Option.some.inj H
  go_enter Try.func112,Try.ntmps112
  go_wp2
  go_ret
  exact ⟨nM,Xo⟩
def bU.f (ai:Int) (aj:Int):Option (Bool):=if ai≤aj then ((aW.f ai (-1073741824) 1073741824).bind fun t103=>(if t103 = true then ((aW.f aj (-1073741824) 1073741824).bind fun t104=>(some t104)) else (some false))) else (some false)
set_option maxHeartbeats 8000000 in
set_option maxRecDepth 100000 in
theorem bU.calls (ai:Int) (aj:Int) (r:Bool) (w:World) (h:bU.f ai aj = some r):
 Calls Try.prog 111 #[.agg #[U Z ai,U Z aj]] w fun e w'=>e = .returned (.bool r)∧Below w.heap.size w w':=by
 have pz:=Try.underlying27
 have HB:=aa.mk (Below.refl w.heap.size w)
 have H:(if ai≤aj then ((aW.f ai (-1073741824) 1073741824).bind fun t103=>(if t103 = true then ((aW.f aj (-1073741824) 1073741824).bind fun t104=>(some t104)) else (some false))) else (some false)) = some r:=h
 clear h
 by_cases c2:ai≤aj
 ·rw [if_pos c2] at H
  have abz:decide (ai≤aj) = true:=decide_eq_true c2
  clear c2
  replace H:=Option.bind_eq_some_iff.mp H
  obtain ⟨t103,QH,H⟩:=H
  replace H:(if t103 = true then ((aW.f aj (-1073741824) 1073741824).bind fun t104=>(some t104)) else (some false)) = some r:=H
  have A3:=aa.mk QH
  clear QH
  by_cases c4:t103 = true
  ·subst c4
   have H1:((aW.f aj (-1073741824) 1073741824).bind fun t104=>(some t104)) = some r:=by rw [if_pos rfl] at H;exact H
   clear H
   have H:=H1
   clear H1
   replace H:=Option.bind_eq_some_iff.mp H
   obtain ⟨t104,QF,H⟩:=H
   replace H:(some t104) = some r:=H
   have A5:=aa.mk QF
   clear QF
   obtain rfl:=Option.some.inj H
   go_enter Try.func111,Try.ntmps111
   go_wp2_with (first|((with_reducible refine aA (N:=1) rfl ?_);refine au (by rfl) (N:=1) (by rfl) (cs:=#[U Z ai,U Z aj]) (t:=27) fG ?_;intro axw hg w6 hbox hb;have acO:=aa.mk (hbox);have axx:=bS HB hg;have axy:=bS HB hg;replace HB:=cO HB hb;clear hb hbox hg;obtain ⟨zA,zB,zC,zD⟩:=iZ acO.out)|(go_at_call 112;(with_reducible refine (aW.calls ai (-1073741824) 1073741824 true _ A3.out).mono ?_);rintro e w' ⟨rfl,⟨nd,rfl⟩⟩)|(go_at_call 112;(with_reducible refine (aW.calls aj (-1073741824) 1073741824 t104 _ A5.out).mono ?_);rintro e w' ⟨rfl,⟨nd,rfl⟩⟩))
   go_ret
   exact ⟨lW,gL⟩
  ·replace c4:=Bool.eq_false_iff.mpr c4
   subst c4
   have H1:(some false) = some r:=by rw [if_neg (show ¬ (false = true) by decide)] at H;exact H
   clear H
   have H:=H1
   clear H1
   obtain rfl:=Option.some.inj H
   go_enter Try.func111,Try.ntmps111
   go_wp2_with (first|((with_reducible refine aA (N:=1) rfl ?_);refine au (by rfl) (N:=1) (by rfl) (cs:=#[U Z ai,U Z aj]) (t:=27) fG ?_;intro axw hg w8 hbox hb;have acO:=aa.mk (hbox);have axx:=bS HB hg;have axy:=bS HB hg;replace HB:=cO HB hb;clear hb hbox hg;obtain ⟨zu,zw,zx,zy⟩:=iZ acO.out)|(go_at_call 112;(with_reducible refine (aW.calls ai (-1073741824) 1073741824 false _ A3.out).mono ?_);rintro e w' ⟨rfl,⟨nd,rfl⟩⟩))
   go_ret
   exact ⟨lW,gL⟩
 ·rw [if_neg c2] at H
  have abz:decide (ai≤aj) = false:=decide_eq_false c2
  clear c2
  obtain rfl:=Option.some.inj H
  go_enter Try.func111,Try.ntmps111
  go_wp2_with (first|((with_reducible refine aA (N:=1) rfl ?_);refine au (by rfl) (N:=1) (by rfl) (cs:=#[U Z ai,U Z aj]) (t:=27) fG ?_;intro axw hg w10 hbox hb;have acO:=aa.mk (hbox);have axx:=bS HB hg;have axy:=bS HB hg;replace HB:=cO HB hb;clear hb hbox hg;obtain ⟨uk,um,uo,uq⟩:=iZ acO.out))
  go_ret
  exact ⟨lW,gL⟩
end Go.Proofs.Ytmhaiihjfgfaoaa.Pr
end
