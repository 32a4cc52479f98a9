import Derived.Test.YtmhaiihjfgfaoaaProg
import Derived.Below
import Derived.Deep.Draws
import Derived.Deep.AppendLies
import Derived.Maps.AppendAt
import Derived.OwnWalk
import Derived.Laws.BytesArg
import Derived.Laws.MakeOwn
import Derived.Laws.OwnMore
import Derived.Deep.OwnRows
import Derived.Tactics
import Derived.Lib.ConvBytes
import Derived.Laws.Slices
import Derived.WalkKit
import Derived.KernelRfl
import Derived.RowKit3
import Derived.Deep.LoopGhost
import Derived.Deep.QuietTactic
import Derived.BigQuiet
import Derived.WideLaws
import Derived.Deep.DeepCutAuto
import Derived.Deep.CutBlock
import Derived.Deep.RegionHeld3
import Derived.Laws.Rows
import Derived.Lib.AppendStr
import Derived.ArgAppend
import Derived.Laws.IdiomCopy
import Derived.OrdersHeld
import Derived.Laws.BitsLemmas
import Derived.RowKit
import Derived.Test.YtmhaiihjfgfaoaaGzGliderReaches1
import Derived.Test.YtmhaiihjfgfaoaaGzGliderReaches2
set_option linter.unusedVariables false
open Go.Value renaming int → U
open Go.IntKind renaming i64 → Z
open Bool renaming true → ab, false → ac
section
namespace Go.Proofs.YtmhaiihjfgfaoaaW.PrintMore
open Go.RowKit Go.Proofs.YtmhaiihjfgfaoaaW.PrintWords
namespace Kd
open Go.Proofs.YtmhaiihjfgfaoaaW.PrintWords.Kd
end Kd
namespace Kd
open Go.Proofs.YtmhaiihjfgfaoaaW.PrintWords.Kd
section
variable {α:Type} {d:Kd α} {e base g N:Nat} {ok:Nat→Prop} {W w1:World} {u v:Value} {xs:List α}
end
end Kd
theorem eD (k k':IntKind) (x y:Int):Builtin.max2 (.int k x) (.int k' y) = pure (.int k (if x < y then y else x)):=by simp only [Builtin.max2,gt_iff_lt]
theorem eF (k k':IntKind) (x y:Int):Builtin.min2 (.int k x) (.int k' y) = pure (.int k (if y < x then y else x)):=by simp only [Builtin.min2]
theorem fD (ats:Array TypeId) (ty:TypeId) (a b:Value):Builtin.max_ ats ty #[a,b] = (Builtin.max2 a b >>= fun s=>pure s):=by simp only [Builtin.max_,List.foldlM_cons,List.foldlM_nil]
theorem fE (ats:Array TypeId) (ty:TypeId) (a b:Value):Builtin.min_ ats ty #[a,b] = (Builtin.min2 a b >>= fun s=>pure s):=by simp only [Builtin.min_,List.foldlM_cons,List.foldlM_nil]
theorem eG (ats:Array TypeId) (ty:TypeId) (a b c d:Value):Builtin.max_ ats ty #[a,b,c,d] = (Builtin.max2 a b >>= fun s=>Builtin.max2 s c >>= fun s=>Builtin.max2 s d >>= fun s=>pure s):=by simp only [Builtin.max_,List.foldlM_cons,List.foldlM_nil]
end Go.Proofs.YtmhaiihjfgfaoaaW.PrintMore
namespace Go.Proofs.YtmhaiihjfgfaoaaW.PrintWords
open Go.RowKit
section
variable {P:Program} {ops:Array Oper} {rest:List Oper} {o:Oper} {a:Act} {Q:Exit→Act→World→Prop} {W:World}
theorem aN {f:FuncId} {as_:Array Operand} {ts:Array TypeId} (_ho:o.op = .call { callee:=.value (.func f),args:=as_,argTypes:=ts }) (h:wpList P ops Q (o :: rest) a W):wpList P ops Q (o :: rest) a W:=h
theorem FP {b:Builtin} {xs:Array Operand} {ts:Array TypeId} (_ho:o.op = .call { callee:=.builtin b,args:=xs,argTypes:=ts }) (h:wpList P ops Q (o :: rest) a W):wpList P ops Q (o :: rest) a W:=h
end
def mx (a b:Int):Int:=if a < b then b else a
def mn (a b:Int):Int:=if b < a then b else a
theorem aab (w:World) (n:Nat):w.drewN n = w.drewN n:=rfl
namespace Kd
section
variable {α:Type} {d:Kd α} {e base:Nat} {ok:Nat→Prop} {W w1:World} {v:Value} {xs:List α}
end
section
variable {α:Type} {d:Kd α} {e base g n cap:Nat} {ok oki okp:Nat→Prop} {W:World} {xs:List α} {i:Int} {c:List Value}
end
section
variable {α:Type} {d:Kd α} {e base b b' g N:Nat} {ok ok1:Nat→Prop} {W W2 w1:World} {u v:Value} {xs ys:List α} {S:Nat→Prop}
end
end Kd
end Go.Proofs.YtmhaiihjfgfaoaaW.PrintWords
namespace Go.Proofs.YtmhaiihjfgfaoaaW.PrintWords
open Go.RowKit
namespace Kd
def V {α:Type} (d:Kd α) (_e:Nat) (W:World) (_base:Nat) (ok:Nat→Prop) (v:Value) (xs:List α):Prop:=∃ A c,v = .slice A xs.length c∧xs.length≤c∧F d W ok A xs.length xs
section
variable {α β:Type} {d:Kd α} {e base base' n m c g N' lo hi:Nat} {ok ok' S:Nat→Prop} {w W w1:World} {A:Option Addr} {ad:Addr} {u v v1:Value} {xs:List α}
end
end Kd
end Go.Proofs.YtmhaiihjfgfaoaaW.PrintWords
end
section
set_option linter.unusedVariables false
namespace Go.Proofs.YtmhaiihjfgfaoaaW.PrintMore
open Go.RowKit Go.Proofs.YtmhaiihjfgfaoaaW.PrintWords Go.Proofs.YtmhaiihjfgfaoaaW.PrintLast
theorem bC {W0 W W1:World} {g:Nat} {o:Obj} (h:aa (W0.heap[g]? = some o)) (hb:Below W.heap.size W W1) (h2:W.heap[g]? = some o:=by (repeat first|(with_reducible first|refine au ?_ _|refine ag ?_|refine ae ?_ _)|refine aj ?_ (aa.out (by assumption)) _);exact aa.out (by assumption)):aa (W1.heap[g]? = some o):=⟨av h2 hb⟩
theorem dw {w W0 W W1:World} (h:aa (Below w.heap.size w W0)) (hb:Below W.heap.size W W1) (h2:Below w.heap.size w W:=by repeat (first|(with_reducible first|exact aa.out (by assumption)|apply aT|apply nA|apply bU|refine Nt ?_ (aa.out (by assumption)))|exact aa.out (by assumption))):aa (Below w.heap.size w W1):=⟨bO h2 hb⟩
theorem dn {w W0 W:World} {g:Nat} (h:aa (Below w.heap.size w W0)) (hg:g = W.heap.size) (h2:Below w.heap.size w W:=by repeat (first|(with_reducible first|exact aa.out (by assumption)|apply aT|apply nA|apply bU|refine Nt ?_ (aa.out (by assumption)))|exact aa.out (by assumption))):aa (w.heap.size≤g):=⟨by rw [hg];exact fJ h2⟩
theorem iq {W0 W:World} {g g1:Nat} {o:Obj} (h:aa (W0.heap[g]? = some o)) (hg:g1 = W.heap.size) (h2:W.heap[g]? = some o:=by (repeat first|(with_reducible first|refine au ?_ _|refine ag ?_|refine ae ?_ _)|refine aj ?_ (aa.out (by assumption)) _);exact aa.out (by assumption)):aa (g≠g1):=⟨by rw [hg];exact Nat.ne_of_lt (bP h2)⟩
theorem iw {W0 W:World} {g g1:Nat} {o:Obj} (h:aa (W0.heap[g]? = some o)) (hg:g1 = W.heap.size) (h2:W.heap[g]? = some o:=by (repeat first|(with_reducible first|refine au ?_ _|refine ag ?_|refine ae ?_ _)|refine aj ?_ (aa.out (by assumption)) _);exact aa.out (by assumption)):aa (g1≠g):=⟨by rw [hg];exact Nat.ne_of_gt (bP h2)⟩
theorem fu {p:Prop} (h:p:=by repeat (first|(with_reducible first|exact aa.out (by assumption)|apply aT|apply nA|apply bU|refine Nt ?_ (aa.out (by assumption)))|exact aa.out (by assumption))):p:=h
theorem fO {W:World} {x g i j:Nat} {v:Value} {q:Option Value} (h:aa (x≠g)) (e:W.cell? ⟨x,j,none⟩ = q):(W.setCell ⟨g,i,none⟩ v).cell? ⟨x,j,none⟩ = q:=(cell_far (p:=⟨g,_,none⟩) h.out _).trans e
theorem dz {W:World} {b:Nat} {cs:Array Value} {t:TypeId} (h:aa (W.heap[b]? = some (.cells cs t (0,0)))) (k:Nat) {v:Value} (e:cs[k]? = some v:=by rfl):W.cell? ⟨b,k,none⟩ = some v:=(af h.out k).trans e
theorem uj {w W:World} {p:Addr} {v:Value} (h:aa (Below w.heap.size w W)) (e:w.cell? p = some v):W.cell? p = some v:=(h.out.cell (World.block_lt_of_cell? w _ e)).trans e
theorem fB {p:Prop} (h:p:=by (repeat first|(with_reducible first|refine au ?_ _|refine ag ?_|refine ae ?_ _)|refine aj ?_ (aa.out (by assumption)) _);exact aa.out (by assumption)):p:=h
theorem uW {α:Type} {d:Kd α} {e base:Nat} {ok:Nat→Prop} {v:Value} {xs:List α} {W0 W W1:World} (h:aa (d.R e W0 base ok v xs)) (hb:Below W.heap.size W W1) (h2:d.R e W base ok v xs:=by (with_reducible repeat (first|apply Kd.jf|apply Kd.iQ|apply Kd.iE));exact aa.out (by assumption)):aa (d.R e W1 base ok v xs):=⟨Kd.lD h2 hb⟩
theorem dW {P:Program} {ops:Array Oper} {Q:Exit→Act→World→Prop} {S:World→Prop} {ds:List Nat} {md:Region.Mode} (i:Nat) (N:Option Tmp) {oi:Oper} {v:Value} {fuel:Nat} {l l':Array Bool} {a:Act} {w:World} (hc:aiE md ops l l' i = true) {a':Act}
 (h:eu P md ops Q S ds fuel l' a' w) (hl:l.setIfInBounds i true = l':=by simp only [List.setIfInBounds_toArray,List.set_cons_zero,List.set_cons_succ];rfl) (hi:ops[i]? = some oi:=by rfl) (hN:oi.dst = N:=by rfl) (hw:Region.wanted oi (yielded ops a.tmps) = true:=by rfl)
 (hy:∀ w,(execOp a.eval oi).run P w = .ok (.value v) w:=by intro w';go_simp;with_reducible rfl) (ha:a.put N v = a':=by simp only [Act.put,List.setIfInBounds_toArray,List.set_cons_zero,List.set_cons_succ,eB,eH];rfl) (hQ:∀ c a w,Q (.panic c) (a.put oi.dst v) w→Q (.panic c) a w:=by exact fun _ _ _ h=>h):eu P md ops Q S ds (fuel+1) l a w:=jR l' hi hN hc hQ (Or.inl ⟨hw,hy⟩) ha h
theorem ja {P:Program} {ops:Array Oper} {Q:Exit→Act→World→Prop} {S:World→Prop} {ds:List Nat} {md:Region.Mode} (i:Nat) (N:Option Tmp) {oi:Oper} {v:Value} {fuel:Nat} {l l':Array Bool} {a:Act} {w:World} (hc:takeB md ops ds l l' i = true) {a':Act}
 (hS:S w) (h:eu P md ops Q S ds fuel l' a' w) (hl:l.setIfInBounds i true = l':=by simp only [List.setIfInBounds_toArray,List.set_cons_zero,List.set_cons_succ];rfl) (hi:ops[i]? = some oi:=by rfl) (hN:oi.dst = N:=by rfl) (hw:Region.wanted oi (yielded ops a.tmps) = true:=by rfl)
 (hy:∀ w,S w→(execOp a.eval oi).run P w = .ok (.value v) w:=by intro w' s_;repeat' obtain ⟨_,s_⟩:=s_;go_simp;with_reducible rfl) (ha:a.put N v = a':=by simp only [Act.put,List.setIfInBounds_toArray,List.set_cons_zero,List.set_cons_succ,eB,eH];rfl) (hQ:∀ c a w,Q (.panic c) (a.put oi.dst v) w→Q (.panic c) a w:=by exact fun _ _ _ h=>h):eu P md ops Q S ds (fuel+1) l a w:=azp l' hi hN hc hQ (Or.inl ⟨hw,hy⟩) hS ha h
theorem J9 {W:World} {g:Nat} {x0 x1:Value} {T:TypeId} (h:W.heap[g]? = some (.cells #[x0,x1] T (0,0))):W.cell? ⟨g,0,none⟩ = some x0∧W.cell? ⟨g,1,none⟩ = some x1:=⟨(af h 0).trans rfl,(af h 1).trans rfl⟩
theorem jq {W:World} {g:Nat} {x0 x1:Value} {T:TypeId} (h:W.heap[g]? = some (.cells #[x0,x1] T (0,0))):W.cell? ⟨g,0,none⟩ = some x0∧W.cell? ⟨g,1,none⟩ = some x1∧W.frozen? ⟨g,0,none⟩ = false∧W.frozen? ⟨g,1,none⟩ = false:=⟨(af h 0).trans rfl,(af h 1).trans rfl,bn h 0,bn h 1⟩
theorem nV {W:World} {g:Nat} {x0 x1 x2 x3:Value} {T:TypeId} (h:W.heap[g]? = some (.cells #[x0,x1,x2,x3] T (0,0))):W.cell? ⟨g,0,none⟩ = some x0∧W.cell? ⟨g,1,none⟩ = some x1∧W.cell? ⟨g,2,none⟩ = some x2∧W.cell? ⟨g,3,none⟩ = some x3:=⟨(af h 0).trans rfl,(af h 1).trans rfl,(af h 2).trans rfl,(af h 3).trans rfl⟩
theorem arn {W:World} {g:Nat} {x0 x1 x2 x3:Value} {T:TypeId} (h:W.heap[g]? = some (.cells #[x0,x1,x2,x3] T (0,0))):W.frozen? ⟨g,0,none⟩ = false∧W.frozen? ⟨g,1,none⟩ = false∧W.frozen? ⟨g,2,none⟩ = false∧W.frozen? ⟨g,3,none⟩ = false:=⟨bn h 0,bn h 1,bn h 2,bn h 3⟩
theorem gD {W:World} {g:Nat} {x0 x1 x2 x3:Value} {T:TypeId} (h:W.heap[g]? = some (.cells #[x0,x1,x2,x3] T (0,0))):W.cell? ⟨g,0,none⟩ = some x0∧W.cell? ⟨g,1,none⟩ = some x1∧W.cell? ⟨g,2,none⟩ = some x2∧W.cell? ⟨g,3,none⟩ = some x3∧W.frozen? ⟨g,0,none⟩ = false∧W.frozen? ⟨g,1,none⟩ = false∧W.frozen? ⟨g,2,none⟩ = false∧W.frozen? ⟨g,3,none⟩ = false:=⟨(af h 0).trans rfl,(af h 1).trans rfl,(af h 2).trans rfl,(af h 3).trans rfl,bn h 0,bn h 1,bn h 2,bn h 3⟩
theorem Ye {W:World} {g:Nat} {x0 x1 x2 x3:Value} {T:TypeId} {q:Prop} (h:W.heap[g]? = some (.cells #[x0,x1,x2,x3] T (0,0))) (r:q):W.cell? ⟨g,0,none⟩ = some x0∧W.cell? ⟨g,1,none⟩ = some x1∧W.cell? ⟨g,2,none⟩ = some x2∧W.cell? ⟨g,3,none⟩ = some x3∧q:=⟨(af h 0).trans rfl,(af h 1).trans rfl,(af h 2).trans rfl,(af h 3).trans rfl,r⟩
theorem ai5 {W:World} {g:Nat} {x0 x1 x2 x3 x4 x5:Value} {T:TypeId} (h:W.heap[g]? = some (.cells #[x0,x1,x2,x3,x4,x5] T (0,0))):W.cell? ⟨g,0,none⟩ = some x0∧W.cell? ⟨g,1,none⟩ = some x1∧W.cell? ⟨g,2,none⟩ = some x2∧W.cell? ⟨g,3,none⟩ = some x3∧W.cell? ⟨g,4,none⟩ = some x4∧W.cell? ⟨g,5,none⟩ = some x5:=⟨(af h 0).trans rfl,(af h 1).trans rfl,(af h 2).trans rfl,(af h 3).trans rfl,(af h 4).trans rfl,(af h 5).trans rfl⟩
theorem DU {W:World} {g:Nat} {x0 x1 x2 x3 x4 x5:Value} {T:TypeId} (h:W.heap[g]? = some (.cells #[x0,x1,x2,x3,x4,x5] T (0,0))):W.cell? ⟨g,0,none⟩ = some x0∧W.cell? ⟨g,1,none⟩ = some x1∧W.cell? ⟨g,2,none⟩ = some x2∧W.cell? ⟨g,3,none⟩ = some x3∧W.cell? ⟨g,4,none⟩ = some x4∧W.cell? ⟨g,5,none⟩ = some x5∧W.frozen? ⟨g,0,none⟩ = false∧W.frozen? ⟨g,1,none⟩ = false∧W.frozen? ⟨g,2,none⟩ = false∧W.frozen? ⟨g,3,none⟩ = false∧W.frozen? ⟨g,4,none⟩ = false∧W.frozen? ⟨g,5,none⟩ = false:=⟨(af h 0).trans rfl,(af h 1).trans rfl,(af h 2).trans rfl,(af h 3).trans rfl,(af h 4).trans rfl,(af h 5).trans rfl,bn h 0,bn h 1,bn h 2,bn h 3,bn h 4,bn h 5⟩
theorem apX {W:World} {g:Nat} {x0 x1 x2 x3 x4 x5:Value} {T:TypeId} {q:Prop} (h:W.heap[g]? = some (.cells #[x0,x1,x2,x3,x4,x5] T (0,0))) (r:q):W.cell? ⟨g,0,none⟩ = some x0∧W.cell? ⟨g,1,none⟩ = some x1∧W.cell? ⟨g,2,none⟩ = some x2∧W.cell? ⟨g,3,none⟩ = some x3∧W.cell? ⟨g,4,none⟩ = some x4∧W.cell? ⟨g,5,none⟩ = some x5∧q:=⟨(af h 0).trans rfl,(af h 1).trans rfl,(af h 2).trans rfl,(af h 3).trans rfl,(af h 4).trans rfl,(af h 5).trans rfl,r⟩
theorem Hr {W:World} {g:Nat} {x0 x1 x2 x3 x4 x5 x6:Value} {T:TypeId} (h:W.heap[g]? = some (.cells #[x0,x1,x2,x3,x4,x5,x6] T (0,0))):W.cell? ⟨g,0,none⟩ = some x0∧W.cell? ⟨g,1,none⟩ = some x1∧W.cell? ⟨g,2,none⟩ = some x2∧W.cell? ⟨g,3,none⟩ = some x3∧W.cell? ⟨g,4,none⟩ = some x4∧W.cell? ⟨g,5,none⟩ = some x5∧W.cell? ⟨g,6,none⟩ = some x6:=⟨(af h 0).trans rfl,(af h 1).trans rfl,(af h 2).trans rfl,(af h 3).trans rfl,(af h 4).trans rfl,(af h 5).trans rfl,(af h 6).trans rfl⟩
theorem jb {W:World} {g:Nat} {x0 x1 x2 x3 x4 x5 x6:Value} {T:TypeId} (h:W.heap[g]? = some (.cells #[x0,x1,x2,x3,x4,x5,x6] T (0,0))):W.cell? ⟨g,0,none⟩ = some x0∧W.cell? ⟨g,1,none⟩ = some x1∧W.cell? ⟨g,2,none⟩ = some x2∧W.cell? ⟨g,3,none⟩ = some x3∧W.cell? ⟨g,4,none⟩ = some x4∧W.cell? ⟨g,5,none⟩ = some x5∧W.cell? ⟨g,6,none⟩ = some x6∧W.frozen? ⟨g,0,none⟩ = false∧W.frozen? ⟨g,1,none⟩ = false∧W.frozen? ⟨g,2,none⟩ = false∧W.frozen? ⟨g,3,none⟩ = false∧W.frozen? ⟨g,4,none⟩ = false∧W.frozen? ⟨g,5,none⟩ = false∧W.frozen? ⟨g,6,none⟩ = false:=⟨(af h 0).trans rfl,(af h 1).trans rfl,(af h 2).trans rfl,(af h 3).trans rfl,(af h 4).trans rfl,(af h 5).trans rfl,(af h 6).trans rfl,bn h 0,bn h 1,bn h 2,bn h 3,bn h 4,bn h 5,bn h 6⟩
theorem agn {W:World} {g:Nat} {x0 x1 x2 x3 x4 x5 x6:Value} {T:TypeId} {q:Prop} (h:W.heap[g]? = some (.cells #[x0,x1,x2,x3,x4,x5,x6] T (0,0))) (r:q):W.cell? ⟨g,0,none⟩ = some x0∧W.cell? ⟨g,1,none⟩ = some x1∧W.cell? ⟨g,2,none⟩ = some x2∧W.cell? ⟨g,3,none⟩ = some x3∧W.cell? ⟨g,4,none⟩ = some x4∧W.cell? ⟨g,5,none⟩ = some x5∧W.cell? ⟨g,6,none⟩ = some x6∧q:=⟨(af h 0).trans rfl,(af h 1).trans rfl,(af h 2).trans rfl,(af h 3).trans rfl,(af h 4).trans rfl,(af h 5).trans rfl,(af h 6).trans rfl,r⟩
theorem BG {W:World} {g:Nat} {x0 x1 x2 x3 x4 x5 x6 x7 x8:Value} {T:TypeId} (h:W.heap[g]? = some (.cells #[x0,x1,x2,x3,x4,x5,x6,x7,x8] T (0,0))):W.cell? ⟨g,0,none⟩ = some x0∧W.cell? ⟨g,1,none⟩ = some x1∧W.cell? ⟨g,2,none⟩ = some x2∧W.cell? ⟨g,3,none⟩ = some x3∧W.cell? ⟨g,4,none⟩ = some x4∧W.cell? ⟨g,5,none⟩ = some x5∧W.cell? ⟨g,6,none⟩ = some x6∧W.cell? ⟨g,7,none⟩ = some x7∧W.cell? ⟨g,8,none⟩ = some x8:=⟨(af h 0).trans rfl,(af h 1).trans rfl,(af h 2).trans rfl,(af h 3).trans rfl,(af h 4).trans rfl,(af h 5).trans rfl,(af h 6).trans rfl,(af h 7).trans rfl,(af h 8).trans rfl⟩
theorem iH {W:World} {g:Nat} {x0 x1 x2 x3 x4 x5 x6 x7 x8:Value} {T:TypeId} (h:W.heap[g]? = some (.cells #[x0,x1,x2,x3,x4,x5,x6,x7,x8] T (0,0))):W.cell? ⟨g,0,none⟩ = some x0∧W.cell? ⟨g,1,none⟩ = some x1∧W.cell? ⟨g,2,none⟩ = some x2∧W.cell? ⟨g,3,none⟩ = some x3∧W.cell? ⟨g,4,none⟩ = some x4∧W.cell? ⟨g,5,none⟩ = some x5∧W.cell? ⟨g,6,none⟩ = some x6∧W.cell? ⟨g,7,none⟩ = some x7∧W.cell? ⟨g,8,none⟩ = some x8∧W.frozen? ⟨g,0,none⟩ = false∧W.frozen? ⟨g,1,none⟩ = false∧W.frozen? ⟨g,2,none⟩ = false∧W.frozen? ⟨g,3,none⟩ = false∧W.frozen? ⟨g,4,none⟩ = false∧W.frozen? ⟨g,5,none⟩ = false∧W.frozen? ⟨g,6,none⟩ = false∧W.frozen? ⟨g,7,none⟩ = false∧W.frozen? ⟨g,8,none⟩ = false:=⟨(af h 0).trans rfl,(af h 1).trans rfl,(af h 2).trans rfl,(af h 3).trans rfl,(af h 4).trans rfl,(af h 5).trans rfl,(af h 6).trans rfl,(af h 7).trans rfl,(af h 8).trans rfl,bn h 0,bn h 1,bn h 2,bn h 3,bn h 4,bn h 5,bn h 6,bn h 7,bn h 8⟩
theorem BI {W:World} {g:Nat} {x0 x1 x2 x3 x4 x5 x6 x7 x8:Value} {T:TypeId} {q:Prop} (h:W.heap[g]? = some (.cells #[x0,x1,x2,x3,x4,x5,x6,x7,x8] T (0,0))) (r:q):W.cell? ⟨g,0,none⟩ = some x0∧W.cell? ⟨g,1,none⟩ = some x1∧W.cell? ⟨g,2,none⟩ = some x2∧W.cell? ⟨g,3,none⟩ = some x3∧W.cell? ⟨g,4,none⟩ = some x4∧W.cell? ⟨g,5,none⟩ = some x5∧W.cell? ⟨g,6,none⟩ = some x6∧W.cell? ⟨g,7,none⟩ = some x7∧W.cell? ⟨g,8,none⟩ = some x8∧q:=⟨(af h 0).trans rfl,(af h 1).trans rfl,(af h 2).trans rfl,(af h 3).trans rfl,(af h 4).trans rfl,(af h 5).trans rfl,(af h 6).trans rfl,(af h 7).trans rfl,(af h 8).trans rfl,r⟩
theorem zq0 {p:Prop} (h:p:=by rw [← DY _ _ 1 (by omega)];exact hc 1 _ rfl):p:=h
theorem aY {p:Prop} (h:p:=by kernel_rfl):p:=h
theorem mg {p:Prop} (h:p:=by first|rfl|(simp;done)|(simp [*];done)):p:=h
theorem zq3 {p:Prop} (h:p:=by repeat (first|exact uu.refl _|apply uu.step)):p:=h
theorem qN {p:Prop} (h:p:=by first|(with_reducible assumption)|assumption):p:=h
theorem fM {p:Prop} (h:p:=by first|(go_simp;done)|(go_simp;rfl)):p:=h
theorem kL {p:Prop} (h:p:=by first|rfl|(simp [jD,jE] <;> rfl)|(simp [*,jD,jE] <;> rfl)):p:=h
theorem zq7 {p:Prop} (h:p:=by have:=G5.out;omega):p:=h
theorem iG {p:Prop} (h:p:=by (try simp only [List.map_toArray,List.map_cons,List.map_nil]);first|done|rfl|(simp only [List.length_drop,List.length_take];rfl)):p:=h
theorem zq9 {p:Prop} (h:p:=by first|rfl|(simp [jD,jE] <;> rfl)|(simp only [← G6];first|rfl|(simp [jD,jE] <;> rfl))|(simp [*,jD,jE] <;> rfl)):p:=h
theorem N9 {p:Prop} (h:p:=by first|exact Kd.ag5 _ _ _ _ _|exact Kd.aSx _ _ _ _ _|exact Kd.aSy _ _ _ _ _|exact Kd.aSz _ _ _ _ _|exact Kd.aSA _ _ _ _ _):p:=h
theorem aEv {p:Prop} (h:p:=by (with_reducible repeat (first|apply Kd.jf|apply Kd.iQ|apply Kd.iE));exact xS.out):p:=h
theorem R3 {p:Prop} (h:p:=by rw [HR.out];rfl):p:=h
theorem R4 {p:Prop} (h:p:=by repeat (first|exact Below.refl _ _|apply aT|apply bU|apply nA)):p:=h
theorem UN {p:Prop} (h:p:=by have h_:=eP w (.cells #[U Z s.nx,U Z s.ny,U Z s.cell,U Z s.slot,U Z s.slots,U Z s.layers,U Z s.most,.slice A7 s.shores.length c7,.slice A8 s.currents.length c8] 25);first|exact h_|(simp only [World.size_alloc] at h_;exact h_)):p:=h
theorem o6 {p:Prop} (h:p:=by rw [HZ.out];rfl):p:=h
theorem aEr {p:Prop} (h:p:=by have h_:=eP w (.cells #[U Z a.f0,U Z a.f1] 27);first|exact h_|(simp only [World.size_alloc] at h_;exact h_)):p:=h
theorem aEs {p:Prop} (h:p:=by show Act.put _ (some 9) _ = _;simp only [Act.put,List.setIfInBounds_toArray,List.set_cons_zero,List.set_cons_succ,eB,eH];rfl):p:=h
theorem PK {p:Prop} (h:p:=by simp only [List.map_toArray,List.map_cons,List.map_nil];rfl):p:=h
theorem awc {p:Prop} (h:p:=by have h_:=eP w (.cells #[.pointer (some ⟨b,0,none⟩)] 104);first|exact h_|(simp only [World.size_alloc] at h_;exact h_)):p:=h
theorem awd {p:Prop} (h:p:=by have h_:=eP (w.alloc (.cells #[.pointer (some ⟨b,0,none⟩)] 104)) (.cells #[U Z x.f0.f0,U Z x.f0.f1,U Z x.f1.f0,U Z x.f1.f1] 31);first|exact h_|(simp only [World.size_alloc] at h_;exact h_)):p:=h
theorem afe {p:Prop} (h:p:=by show Act.put _ (some 16) _ = _;simp only [Act.put,List.setIfInBounds_toArray,List.set_cons_zero,List.set_cons_succ,eB,eH];rfl):p:=h
theorem ag9 {p:Prop} (h:p:=by have h_:=eP w (.cells #[U Z x.f0.f0,U Z x.f0.f1,U Z x.f1.f0,U Z x.f1.f1] 31);first|exact h_|(simp only [World.size_alloc] at h_;exact h_)):p:=h
theorem ZM {p:Prop} (h:p:=by rw [HV2.out,HZ.out];rfl):p:=h
theorem ZK {p:Prop} (h:p:=by show Act.put _ (some 13) _ = _;simp only [Act.put,List.setIfInBounds_toArray,List.set_cons_zero,List.set_cons_succ,eB,eH];rfl):p:=h
theorem axg {p:Prop} (h:p:=by show Act.put _ (some 11) _ = _;simp only [Act.put,List.setIfInBounds_toArray,List.set_cons_zero,List.set_cons_succ,eB,eH];rfl):p:=h
theorem akA {p:Prop} (h:p:=by first|(simp only [Dz,Act.put,List.setIfInBounds_toArray,List.set_cons_zero,List.set_cons_succ];done)|(simp only [Dz,Act.put,List.setIfInBounds_toArray,List.set_cons_zero,List.set_cons_succ];rfl)):p:=h
theorem auJ {p:Prop} (h:p:=by show Act.put _ (some 29) _ = _;simp only [Act.put,List.setIfInBounds_toArray,List.set_cons_zero,List.set_cons_succ,eB,eH];rfl):p:=h
theorem axh {p:Prop} (h:p:=by show Act.put _ (some 12) _ = _;simp only [Act.put,List.setIfInBounds_toArray,List.set_cons_zero,List.set_cons_succ,eB,eH];rfl):p:=h
theorem auK {p:Prop} (h:p:=by show Act.put _ (some 43) _ = _;simp only [Act.put,List.setIfInBounds_toArray,List.set_cons_zero,List.set_cons_succ,eB,eH];rfl):p:=h
theorem axj {p:Prop} (h:p:=by have h_:=eP W2 (.cells #[U Z G.f0.f0,U Z G.f0.f1,U Z G.f1.f0,U Z G.f1.f1] 31);first|exact h_|(simp only [World.size_alloc] at h_;exact h_)):p:=h
theorem auM {p:Prop} (h:p:=by exact (lT.c2 (show Kd.M k27 _ _ _ (⟨ah,ai⟩:lu) [U Z ah,U Z ai] from (Bd _ _ _ (⟨ah,ai⟩:lu))) (lT.c2 (show Kd.M k27 _ _ _ (⟨ax,ay⟩:lu) [U Z ax,U Z ay] from (Bd _ _ _ (⟨ax,ay⟩:lu))) (lT.none _ _)))):p:=h
theorem axp {p:Prop} (h:p:=by show Act.put _ (some 20) _ = _;simp only [Act.put,List.setIfInBounds_toArray,List.set_cons_zero,List.set_cons_succ,eB,eH];rfl):p:=h
theorem akE {p:Prop} (h:p:=by show Act.put _ (some 24) _ = _;simp only [Act.put,List.setIfInBounds_toArray,List.set_cons_zero,List.set_cons_succ,eB,eH];rfl):p:=h
theorem axq {p:Prop} (h:p:=by show Act.put _ (some 28) _ = _;simp only [Act.put,List.setIfInBounds_toArray,List.set_cons_zero,List.set_cons_succ,eB,eH];rfl):p:=h
theorem axr {p:Prop} (h:p:=by first|rfl|(simp [jD,jE] <;> rfl)|(simp only [← UI,← UJ,← Lb];first|rfl|(simp [jD,jE] <;> rfl))|(simp [*,jD,jE] <;> rfl)):p:=h
theorem XN {p:Prop} (h:p:=by have h_:=eP (w.alloc (.cells #[U Z s.nx,U Z s.ny,U Z s.cell,U Z s.slot,U Z s.slots,U Z s.layers,U Z s.most,.slice A7 s.shores.length c7,.slice A8 s.currents.length c8] 25)) (.cells #[U Z v.speed,U Z v.dive,U Z v.use.f0,U Z v.use.f1,U Z v.drift.f0,U Z v.drift.f1,U Z v.reserve] 29);first|exact h_|(simp only [World.size_alloc] at h_;exact h_)):p:=h
theorem aff {p:Prop} (h:p:=by have h_:=eP ((w.alloc (.cells #[U Z s.nx,U Z s.ny,U Z s.cell,U Z s.slot,U Z s.slots,U Z s.layers,U Z s.most,.slice A7 s.shores.length c7,.slice A8 s.currents.length c8] 25)).alloc (.cells #[U Z v.speed,U Z v.dive,U Z v.use.f0,U Z v.use.f1,U Z v.drift.f0,U Z v.drift.f1,U Z v.reserve] 29)) (.cells #[U Z x.f0.f0,U Z x.f0.f1,U Z x.f1.f0,U Z x.f1.f1] 31);first|exact h_|(simp only [World.size_alloc] at h_;exact h_)):p:=h
theorem ahN {p:Prop} (h:p:=by show Act.put _ (some 14) _ = _;simp only [Act.put,List.setIfInBounds_toArray,List.set_cons_zero,List.set_cons_succ,eB,eH];rfl):p:=h
theorem auZ {p:Prop} (h:p:=by show Act.put _ (some 3) _ = _;simp only [Act.put,List.setIfInBounds_toArray,List.set_cons_zero,List.set_cons_succ,eB,eH];rfl):p:=h
theorem afh {p:Prop} (h:p:=by simp only [Dz,Act.put,List.setIfInBounds_toArray,List.set_cons_zero,List.set_cons_succ]):p:=h
theorem au0 {p:Prop} (h:p:=by (with_reducible repeat (first|apply Kd.jf|apply Kd.iQ|apply Kd.iE));exact kW.out):p:=h
theorem au1 {p:Prop} (h:p:=by (with_reducible repeat (first|apply Kd.jf|apply Kd.iQ|apply Kd.iE));exact kX.out):p:=h
theorem avt {p:Prop} (h:p:=by exact (lT.one (show Kd.M (Kd.int .i64) _ _ _ 0 [U Z 0] from rfl) (lT.one (show Kd.M (Kd.int .i64) _ _ _ 707 [U Z 707] from rfl) (lT.one (show Kd.M (Kd.int .i64) _ _ _ 1000 [U Z 1000] from rfl) (lT.one (show Kd.M (Kd.int .i64) _ _ _ 707 [U Z 707] from rfl) (lT.one (show Kd.M (Kd.int .i64) _ _ _ 0 [U Z 0] from rfl) (lT.one (show Kd.M (Kd.int .i64) _ _ _ (-707) [U Z (-707)] from rfl) (lT.one (show Kd.M (Kd.int .i64) _ _ _ (-1000) [U Z (-1000)] from rfl) (lT.one (show Kd.M (Kd.int .i64) _ _ _ (-707) [U Z (-707)] from rfl) (lT.one (show Kd.M (Kd.int .i64) _ _ _ 0 [U Z 0] from rfl) (lT.none _ _))))))))))):p:=h
theorem avu {p:Prop} (h:p:=by exact (lT.one (show Kd.M (Kd.int .i64) _ _ _ 1000 [U Z 1000] from rfl) (lT.one (show Kd.M (Kd.int .i64) _ _ _ 707 [U Z 707] from rfl) (lT.one (show Kd.M (Kd.int .i64) _ _ _ 0 [U Z 0] from rfl) (lT.one (show Kd.M (Kd.int .i64) _ _ _ (-707) [U Z (-707)] from rfl) (lT.one (show Kd.M (Kd.int .i64) _ _ _ (-1000) [U Z (-1000)] from rfl) (lT.one (show Kd.M (Kd.int .i64) _ _ _ (-707) [U Z (-707)] from rfl) (lT.one (show Kd.M (Kd.int .i64) _ _ _ 0 [U Z 0] from rfl) (lT.one (show Kd.M (Kd.int .i64) _ _ _ 707 [U Z 707] from rfl) (lT.one (show Kd.M (Kd.int .i64) _ _ _ 0 [U Z 0] from rfl) (lT.none _ _))))))))))):p:=h
theorem afF {p:Prop} (h:p:=by (with_reducible repeat (first|apply Kd.jf|apply Kd.iQ|apply Kd.iE));exact GR.out):p:=h
theorem ayh {p:Prop} (h:p:=by first|rfl|(simp [jD,jE] <;> rfl)|(simp only [← G6,← NR];first|rfl|(simp [jD,jE] <;> rfl))|(simp [*,jD,jE] <;> rfl)):p:=h
theorem avA {p:Prop} (h:p:=by show Act.put _ (some 49) _ = _;simp only [Act.put,List.setIfInBounds_toArray,List.set_cons_zero,List.set_cons_succ,eB,eH];rfl):p:=h
theorem avB {p:Prop} (h:p:=by show Act.put _ (some 50) _ = _;simp only [Act.put,List.setIfInBounds_toArray,List.set_cons_zero,List.set_cons_succ,eB,eH];rfl):p:=h
theorem ayu {p:Prop} (h:p:=by (try simp only [List.map_toArray,List.map_cons,List.map_nil]);first|done|(simp only [TW];rfl)|rfl|(simp only [List.length_drop,List.length_take];rfl)):p:=h
theorem alR {p:Prop} (h:p:=by have:=G5.out;have:=aag.out;have:=Yd.out;omega):p:=h
theorem avF {p:Prop} (h:p:=by show Act.put _ (some 32) _ = _;simp only [Act.put,List.setIfInBounds_toArray,List.set_cons_zero,List.set_cons_succ,eB,eH];rfl):p:=h
theorem af0 {p:Prop} (h:p:=by (with_reducible repeat (first|apply Kd.jf|apply Kd.iQ|apply Kd.iE));exact mi.out):p:=h
theorem af2 {p:Prop} (h:p:=by have:=G5.out;have:=Vo.out;have:=Yd.out;omega):p:=h
theorem wE {p:Prop} (h:p:=by first|omega|exact Nat.le_refl _):p:=h
theorem avN {p:Prop} (h:p:=by show Act.put _ (some 116) _ = _;simp only [Act.put,List.setIfInBounds_toArray,List.set_cons_zero,List.set_cons_succ,eB,eH];rfl):p:=h
theorem azw {p:Prop} (h:p:=by show Act.put _ (some 130) _ = _;simp only [Act.put,List.setIfInBounds_toArray,List.set_cons_zero,List.set_cons_succ,eB,eH];rfl):p:=h
theorem avX {p:Prop} (h:p:=by show Act.put _ (some 82) _ = _;simp only [Act.put,List.setIfInBounds_toArray,List.set_cons_zero,List.set_cons_succ,eB,eH];rfl):p:=h
theorem avY {p:Prop} (h:p:=by (with_reducible repeat (first|apply Kd.jf|apply Kd.iQ|apply Kd.iE));exact qa.out):p:=h
theorem Tt {p:Prop} (h:p:=by rw [HZ.out];exact Kd.ag5 _ _ _ _ _):p:=h
theorem arj {p:Prop} (h:p:=by exact (lT.c2 (show Kd.M k27 _ _ _ (⟨ah,ai⟩:lu) [U Z ah,U Z ai] from (Bd _ _ _ (⟨ah,ai⟩:lu))) (lT.c2 (show Kd.M k27 _ _ _ (⟨aQ,aM⟩:lu) [U Z aQ,U Z aM] from (Bd _ _ _ (⟨aQ,aM⟩:lu))) (lT.none _ _)))):p:=h
theorem awg {p:Prop} (h:p:=by (with_reducible repeat (first|apply Kd.jf|apply Kd.iQ|apply Kd.iE));exact mD.out):p:=h
theorem agp {p:Prop} (h:p:=by (with_reducible repeat (first|apply Kd.jf|apply Kd.iQ|apply Kd.iE));exact zM.out):p:=h
theorem aro {p:Prop} (h:p:=by (with_reducible repeat (first|apply Kd.jf|apply Kd.iQ|apply Kd.iE));exact Ad.out):p:=h
end Go.Proofs.YtmhaiihjfgfaoaaW.PrintMore
end
section
namespace Go.Proofs.Ytmhaiihjfgfaoaa.Pr
open Go.RowKit Go.Proofs.YtmhaiihjfgfaoaaW.PrintWords Go.Proofs.YtmhaiihjfgfaoaaW.PrintLast Go.Proofs.YtmhaiihjfgfaoaaW.PrintMore
attribute [local go_sem] eD eF fD fE eG
set_option linter.unusedVariables false
set_option linter.unusedSimpArgs false
def aEw:Option Int→Value
 |none=>.nilIface
 |some c=>.iface 0 (U Z c)
theorem jD:aEw none = .nilIface:=rfl
theorem jE (c:Int):aEw (some c) = .iface 0 (U Z c):=rfl
theorem aEx:(Try.prog.info? 4).map (fun i=>(i.zero,i.size,i.bytes)) = some (some (.bool false),1,1):=by kernel_rfl
theorem aiD:(Try.prog.info? 31).map (fun i=>(i.zero,i.size,i.bytes)) = some (some (.agg #[(U Z 0),(U Z 0),(U Z 0),(U Z 0)]),4,32):=by kernel_rfl
theorem awi:(Try.prog.info? 40).map (fun i=>(i.zero,i.size,i.bytes)) = some (some (.agg #[(U Z 0),(U Z 0),(U Z 0),(U Z 0)]),4,32):=by kernel_rfl
structure lu where
 f0:Int
 f1:Int
def z27:lu:=⟨(0:Int),(0:Int)⟩
def k27:Kd lu:=Kd.iso (Kd.pair (Kd.int .i64) (Kd.int .i64)) (fun x:lu=>(x.f0,x.f1))
theorem BV {w:World} {x:lu} {cs:List Value} (h:k27.K w x cs):cs = [U Z x.f0,U Z x.f1]:=by
 obtain ⟨_,_,rfl,rfl,rfl⟩:=h
 exact rfl
theorem Bd (w:World) (base:Nat) (ok:Nat→Prop) (x:lu):k27.M w base ok x [U Z x.f0,U Z x.f1]:=⟨[U Z x.f0],[U Z x.f1],rfl,rfl,rfl⟩
def oO (xs:List lu) (i:Int):lu:=xs.getD i.toNat z27
theorem WX {w:World} {A:Option Addr} {n:Nat} {xs:List lu} (h:Kd.C k27 w A n xs) (i:Int) (h0:0≤i) (h1:i < n):∃ ad,A = some ad∧w.cell? (ad.add (i.toNat*2)) = some (U Z (oO xs i).f0)∧w.cell? ⟨(ad.add (i.toNat*2)).block,(ad.add (i.toNat*2)).off+1,none⟩ = some (U Z (oO xs i).f1):=by
 obtain ⟨ad,c,e,_,hK,hc0⟩:=Kd.aa4 h z27 i h0 h1
 have hc:∀ j u,c[j]? = some u→w.cell? (ad.add (i.toNat*2+j)) = some u:=hc0
 obtain rfl:=BV hK
 exact ⟨ad,e,hc 0 _ rfl,zq0⟩
structure oV where
 f0:lu
 f1:lu
def z40:oV:=⟨z27,z27⟩
def DD:Kd oV:=Kd.iso (Kd.pair k27 k27) (fun x:oV=>(x.f0,x.f1))
theorem ajw {w:World} {x:oV} {cs:List Value} (h:DD.K w x cs):cs = [U Z x.f0.f0,U Z x.f0.f1,U Z x.f1.f0,U Z x.f1.f1]:=by
 obtain ⟨_,_,rfl,s0,s2⟩:=h
 obtain rfl:=BV s0
 obtain rfl:=BV s2
 exact rfl
theorem arp (w:World) (base:Nat) (ok:Nat→Prop) (x:oV):DD.M w base ok x [U Z x.f0.f0,U Z x.f0.f1,U Z x.f1.f0,U Z x.f1.f1]:=⟨[U Z x.f0.f0,U Z x.f0.f1],[U Z x.f1.f0,U Z x.f1.f1],rfl,(Bd w base ok x.f0),(Bd w base ok x.f1)⟩
def bu (xs:List oV) (i:Int):oV:=xs.getD i.toNat z40
theorem FE {w:World} {A:Option Addr} {n:Nat} {xs:List oV} (h:Kd.C DD w A n xs) (i:Int) (h0:0≤i) (h1:i < n):∃ ad,A = some ad∧w.cell? (ad.add (i.toNat*4)) = some (U Z (bu xs i).f0.f0)∧w.cell? ⟨(ad.add (i.toNat*4)).block,(ad.add (i.toNat*4)).off+1,none⟩ = some (U Z (bu xs i).f0.f1)∧w.cell? ⟨(ad.add (i.toNat*4)).block,(ad.add (i.toNat*4)).off+2,none⟩ = some (U Z (bu xs i).f1.f0)∧w.cell? ⟨(ad.add (i.toNat*4)).block,(ad.add (i.toNat*4)).off+3,none⟩ = some (U Z (bu xs i).f1.f1):=by
 obtain ⟨ad,c,e,_,hK,hc0⟩:=Kd.aa4 h z40 i h0 h1
 have hc:∀ j u,c[j]? = some u→w.cell? (ad.add (i.toNat*4+j)) = some u:=hc0
 obtain rfl:=ajw hK
 exact ⟨ad,e,hc 0 _ rfl,zq0,by rw [← DY _ _ 2 (by omega)];exact hc 2 _ rfl,by rw [← DY _ _ 3 (by omega)];exact hc 3 _ rfl⟩
structure S25 where
 f0:Int
 f1:Int
 f2:Int
 f3:Int
 f4:Int
 f5:Int
 f6:Int
 f7:(List Bool)
 f8:(List oV)
def k25:Kd S25:=Kd.iso (Kd.pair (Kd.int .i64) (Kd.pair (Kd.int .i64) (Kd.pair (Kd.int .i64) (Kd.pair (Kd.int .i64) (Kd.pair (Kd.int .i64) (Kd.pair (Kd.int .i64) (Kd.pair (Kd.int .i64) (Kd.pair (Kd.slice 4 Kd.bool) (Kd.slice 40 DD))))))))) (fun x:S25=>(x.f0,x.f1,x.f2,x.f3,x.f4,x.f5,x.f6,x.f7,x.f8))
theorem ajx {w:World} {x:S25} {cs:List Value} (h:k25.K w x cs):∃ A7 c7 A8 c8,cs = [U Z x.f0,U Z x.f1,U Z x.f2,U Z x.f3,U Z x.f4,U Z x.f5,U Z x.f6,.slice A7 x.f7.length c7,.slice A8 x.f8.length c8]∧x.f7.length≤c7∧Kd.bool.C w A7 x.f7.length x.f7∧x.f8.length≤c8∧DD.C w A8 x.f8.length x.f8:=by
 obtain ⟨_,_,rfl,rfl,⟨_,_,rfl,rfl,⟨_,_,rfl,rfl,⟨_,_,rfl,rfl,⟨_,_,rfl,rfl,⟨_,_,rfl,rfl,⟨_,_,rfl,rfl,⟨_,_,rfl,⟨A7,c7,rfl,l7,g7⟩,⟨A8,c8,rfl,l8,g8⟩⟩⟩⟩⟩⟩⟩⟩⟩:=h
 exact ⟨A7,c7,A8,c8,rfl,l7,g7,l8,g8⟩
structure Hm where
 f0:Int
 f1:Int
def z33:Hm:=⟨(0:Int),(0:Int)⟩
def k33:Kd Hm:=Kd.iso (Kd.pair (Kd.int .i64) (Kd.int .i64)) (fun x:Hm=>(x.f0,x.f1))
theorem ajy {w:World} {x:Hm} {cs:List Value} (h:k33.K w x cs):cs = [U Z x.f0,U Z x.f1]:=by
 obtain ⟨_,_,rfl,rfl,rfl⟩:=h
 exact rfl
theorem auT (w:World) (x:Hm):k33.K w x [U Z x.f0,U Z x.f1]:=⟨[U Z x.f0],[U Z x.f1],rfl,rfl,rfl⟩
def o5 (xs:List Hm) (i:Int):Hm:=xs.getD i.toNat z33
theorem NH {w:World} {A:Option Addr} {n:Nat} {xs:List Hm} (h:Kd.C k33 w A n xs) (i:Int) (h0:0≤i) (h1:i < n):∃ ad,A = some ad∧w.cell? (ad.add (i.toNat*2)) = some (U Z (o5 xs i).f0)∧w.cell? ⟨(ad.add (i.toNat*2)).block,(ad.add (i.toNat*2)).off+1,none⟩ = some (U Z (o5 xs i).f1):=by
 obtain ⟨ad,c,e,_,hK,hc0⟩:=Kd.aa4 h z33 i h0 h1
 have hc:∀ j u,c[j]? = some u→w.cell? (ad.add (i.toNat*2+j)) = some u:=hc0
 obtain rfl:=ajy hK
 exact ⟨ad,e,hc 0 _ rfl,zq0⟩
structure S29 where
 f0:Int
 f1:Int
 f2:lu
 f3:lu
 f4:Int
def k29:Kd S29:=Kd.iso (Kd.pair (Kd.int .i64) (Kd.pair (Kd.int .i64) (Kd.pair k27 (Kd.pair k27 (Kd.int .i64))))) (fun x:S29=>(x.f0,x.f1,x.f2,x.f3,x.f4))
theorem ajz {w:World} {x:S29} {cs:List Value} (h:k29.K w x cs):cs = [U Z x.f0,U Z x.f1,U Z x.f2.f0,U Z x.f2.f1,U Z x.f3.f0,U Z x.f3.f1,U Z x.f4]:=by
 obtain ⟨_,_,rfl,rfl,⟨_,_,rfl,rfl,⟨_,_,rfl,s2,⟨_,_,rfl,s4,rfl⟩⟩⟩⟩:=h
 obtain rfl:=BV s2
 obtain rfl:=BV s4
 exact rfl
structure dO where
 f0:lu
 f1:lu
def z31:dO:=⟨z27,z27⟩
def Iy:Kd dO:=Kd.iso (Kd.pair k27 k27) (fun x:dO=>(x.f0,x.f1))
theorem R5 {w:World} {x:dO} {cs:List Value} (h:Iy.K w x cs):cs = [U Z x.f0.f0,U Z x.f0.f1,U Z x.f1.f0,U Z x.f1.f1]:=by
 obtain ⟨_,_,rfl,s0,s2⟩:=h
 obtain rfl:=BV s0
 obtain rfl:=BV s2
 exact rfl
theorem acb (w:World) (base:Nat) (ok:Nat→Prop) (x:dO):Iy.M w base ok x [U Z x.f0.f0,U Z x.f0.f1,U Z x.f1.f0,U Z x.f1.f1]:=⟨[U Z x.f0.f0,U Z x.f0.f1],[U Z x.f1.f0,U Z x.f1.f1],rfl,(Bd w base ok x.f0),(Bd w base ok x.f1)⟩
def bq (xs:List dO) (i:Int):dO:=xs.getD i.toNat z31
theorem uz {w:World} {A:Option Addr} {n:Nat} {xs:List dO} (h:Kd.C Iy w A n xs) (i:Int) (h0:0≤i) (h1:i < n):∃ ad,A = some ad∧w.cell? (ad.add (i.toNat*4)) = some (U Z (bq xs i).f0.f0)∧w.cell? ⟨(ad.add (i.toNat*4)).block,(ad.add (i.toNat*4)).off+1,none⟩ = some (U Z (bq xs i).f0.f1)∧w.cell? ⟨(ad.add (i.toNat*4)).block,(ad.add (i.toNat*4)).off+2,none⟩ = some (U Z (bq xs i).f1.f0)∧w.cell? ⟨(ad.add (i.toNat*4)).block,(ad.add (i.toNat*4)).off+3,none⟩ = some (U Z (bq xs i).f1.f1):=by
 obtain ⟨ad,c,e,_,hK,hc0⟩:=Kd.aa4 h z31 i h0 h1
 have hc:∀ j u,c[j]? = some u→w.cell? (ad.add (i.toNat*4+j)) = some u:=hc0
 obtain rfl:=R5 hK
 exact ⟨ad,e,hc 0 _ rfl,zq0,by rw [← DY _ _ 2 (by omega)];exact hc 2 _ rfl,by rw [← DY _ _ 3 (by omega)];exact hc 3 _ rfl⟩
structure Zz where
 f0:dO
 f1:Int
 f2:Int
def k81:Kd Zz:=Kd.iso (Kd.pair Iy (Kd.pair (Kd.int .i64) (Kd.int .i64))) (fun x:Zz=>(x.f0,x.f1,x.f2))
theorem ajA {w:World} {x:Zz} {cs:List Value} (h:k81.K w x cs):cs = [U Z x.f0.f0.f0,U Z x.f0.f0.f1,U Z x.f0.f1.f0,U Z x.f0.f1.f1,U Z x.f1,U Z x.f2]:=by
 obtain ⟨_,_,rfl,s0,⟨_,_,rfl,rfl,rfl⟩⟩:=h
 obtain rfl:=R5 s0
 exact rfl
theorem ajj (d:Nat) (w:World) (x0 y0:Int) (x1 y1:Int):
 (Op.equalIn (d+2) 27 (.agg #[U Z x0,U Z x1]) (.agg #[U Z y0,U Z y1])).run Try.prog w = .ok (x0 == y0 && (x1 == y1)) w:=by
 refine aiG Try.underlying27 aY ?_
 refine Yw (by rfl) (by go_simp;rfl) (by go_simp;rfl) (by go_simp) ?_
 exact Yv (by rfl) (by go_simp;rfl) (by go_simp;rfl) (by go_simp)
theorem asD (d:Nat) (w:World) (x0 y0:Int) (x1 y1:Int) (x2 y2:Int) (x3 y3:Int):
 (Op.equalIn (d+3) 31 (.agg #[U Z x0,U Z x1,U Z x2,U Z x3]) (.agg #[U Z y0,U Z y1,U Z y2,U Z y3])).run Try.prog w = .ok ((x0 == y0 && (x1 == y1)) && ((x2 == y2 && (x3 == y3)))) w:=by
 refine aiG Try.underlying31 aY ?_
 refine Yw (by rfl) (by go_simp) (by go_simp) (ajj (d+0) w _ _ _ _) ?_
 exact Yv (by rfl) (by go_simp) (by go_simp) (ajj (d+0) w _ _ _ _)
def bR.f (a0:Int) (a1:Int) (a2:Int):Option (Bool):=if a0 ≥ a1 then (some (decide (a0≤a2))) else (some false)
set_option maxHeartbeats 8000000 in
set_option maxRecDepth 100000 in
theorem bR.calls (a0:Int) (a1:Int) (a2:Int) (r:Bool) (w:World) (h:bR.f a0 a1 a2 = some r):
 Calls Try.prog 74 #[U Z a0,U Z a1,U Z a2] w fun e w'=>e = .returned (.bool r)∧uu w w':=by
 have H:(if a0 ≥ a1 then (some (decide (a0≤a2))) else (some false)) = some r:=h
 clear h
 by_cases c4:a0 ≥ a1
 ·rw [if_pos c4] at H
  have sK:decide (a1≤a0) = true:=decide_eq_true c4
  clear c4
  obtain rfl:=Option.some.inj H
  go_enter Try.func74,Try.ntmps74
  go_wp2
  go_ret
  exact ⟨mg,zq3⟩
 ·rw [if_neg c4] at H
  have sK:decide (a1≤a0) = false:=decide_eq_false c4
  clear c4
  obtain rfl:=Option.some.inj H
  go_enter Try.func74,Try.ntmps74
  go_wp2
  go_ret
  exact ⟨mg,zq3⟩
def dB.l0:Nat→List (lu)→Int→Int→Option (Int)
 |0,_,_,_=>none
 |k+1,x5,x6,x7=>if x7 < x6 then (if 0≤x7 then (if x7 < (x5.length:Int) then (if ((oO x5 x7).f0) > ((oO x5 x7).f1) then (some 2) else (if ((oO x5 x7).f0) < (-1073741824) then (some 2) else (if ((oO x5 x7).f1) > 1073741824 then (some 2) else (dB.l0 k x5 x6 (wrap64 (x7+1)))))) else (none)) else (none)) else (some 0)
def dB.f (k:Nat) (l0:List (lu)):Option (Int):=dB.l0 k l0 (l0.length:Int) 0
theorem dB.R6:∀ k,(∀ y0 y1 y2,nR (dB.l0 k y0 y1 y2) (dB.l0 (k+1) y0 y1 y2))
 |0=>fun _ _ _ r h=>by simp [dB.l0] at h
 |k+1=>by
  have ih0:=dB.R6 k
  ·intro y0 y1 y2
   unfold dB.l0
   repeat' first
   |(with_reducible exact ih0 _ _ _)
   |(with_reducible exact nR.refl _)
   |(with_reducible exact nR.none _)
   |(with_reducible refine nR.ite ?_ ?_)
   |(with_reducible refine nR.bind ?_ (fun _=>?_))
   |exact ih0 _ _ _
   |exact nR.none _
   |refine nR.ite ?_ ?_
   |refine nR.bind ?_ (fun _=>?_)
theorem dB.mono:∀ a0 k,nR (dB.f k a0) (dB.f (k+1) a0):=by
 intro a0 k
 have ih0:=dB.R6 k
 unfold dB.f
 repeat' first
  |(with_reducible exact ih0 _ _ _)
  |(with_reducible exact nR.refl _)
  |(with_reducible exact nR.none _)
  |(with_reducible refine nR.ite ?_ ?_)
  |(with_reducible refine nR.bind ?_ (fun _=>?_))
  |exact ih0 _ _ _
  |exact nR.none _
  |refine nR.ite ?_ ?_
  |refine nR.bind ?_ (fun _=>?_)
set_option maxHeartbeats 8000000 in
set_option maxRecDepth 100000 in
theorem dB.calls (k:Nat) (A0:Option Addr) (c0:Nat) (l0:List (lu)) (r:Int) (w:World) (hr0:Kd.C k27 w A0 l0.length l0) (hc0:l0.length≤c0) (h:dB.f k l0 = some r):
 Calls Try.prog 116 #[.slice A0 l0.length c0] w fun e w'=>e = .returned (U Z r)∧Below w.heap.size w w':=by
 have oo:=Try.underlying27
 have XE:=aa.mk hr0
 have HC0:=aa.mk hc0
 clear hr0 hc0
 have HB:=aa.mk (Below.refl w.heap.size w)
 have H:(dB.l0 k l0 (l0.length:Int) 0) = some r:=h
 clear h
 have H':=aa.mk H
 clear H
 go_enter Try.func116,Try.ntmps116
 go_wp2
 go_loopg [7] k (fun kq v7 w'=>∃ (qW:Int),v7 = U Z qW∧aa (dB.l0 kq l0 (l0.length:Int) qW = some r)∧aa (kq≤k)∧aa (Below w.heap.size w w'))
 case atStart=>exact ⟨(0),mg,H',⟨Nat.le_refl _⟩,⟨fu⟩⟩
 case round =>
  clear H'
  try clear c1
  obtain ⟨qW,rfl,HA,G5,HB⟩:=hrel
  cases gk with
  |zero=>exact absurd HA.out (by simp [dB.l0])
  |succ k1 =>
   have H:=HA.out
   clear HA
   simp only [dB.l0] at H
   by_cases c2:qW < (l0.length:Int)
   ·rw [if_pos c2] at H
    have Rs:decide (qW < (l0.length:Int)) = true:=decide_eq_true c2
    clear c2
    by_cases c3:0≤qW
    ·rw [if_pos c3] at H
     have D9:decide (0≤qW) = true:=decide_eq_true c3
     clear c3
     by_cases c4:qW < (l0.length:Int)
     ·rw [if_pos c4] at H
      have sK:decide (qW < (l0.length:Int)) = true:=decide_eq_true c4
      clear c4
      by_cases c5:((oO l0 qW).f0) > ((oO l0 qW).f1)
      ·rw [if_pos c5] at H
       have Ea:decide (((oO l0 qW).f1) < ((oO l0 qW).f0)) = true:=decide_eq_true c5
       clear c5
       obtain rfl:=Option.some.inj H
       have KM:0≤(qW:Int):=of_decide_eq_true qN
       have KN:qW < (l0.length:Int):=of_decide_eq_true qN
       obtain ⟨ajC,e129,pX,pY⟩:=WX XE.out qW KM KN
       cases e129
       replace pX:=(HB.out.cell (World.block_lt_of_cell? w _ pX)).trans pX
       replace pY:=(HB.out.cell (World.block_lt_of_cell? w _ pY)).trans pY
       replace KM:=eq_true KM
       replace KN:=eq_true KN
       go_wp2_with (first|((with_reducible refine aG (N:=4) rfl ?_);refine az (by rfl) (N:=4) (by rfl) (cs:=#[U Z 0,U Z 0]) (t:=27) fM ?_;intro ajD hg w6 hbox hb;have R7:=aa.mk (hbox);have ajE:=dn HB hg;have ajF:=dn HB hg;replace HB:=dw HB hb;clear hb hbox hg;obtain ⟨wX,wY,wZ,xc⟩:=jq R7.out))
       go_ret
       exact ⟨kL,fu⟩
      ·rw [if_neg c5] at H
       have Ea:decide (((oO l0 qW).f1) < ((oO l0 qW).f0)) = false:=decide_eq_false c5
       clear c5
       by_cases c8:((oO l0 qW).f0) < (-1073741824)
       ·rw [if_pos c8] at H
        have KI:decide (((oO l0 qW).f0) < (-1073741824)) = true:=decide_eq_true c8
        clear c8
        obtain rfl:=Option.some.inj H
        have KM:0≤(qW:Int):=of_decide_eq_true qN
        have KN:qW < (l0.length:Int):=of_decide_eq_true qN
        obtain ⟨ajC,e129,pX,pY⟩:=WX XE.out qW KM KN
        cases e129
        replace pX:=(HB.out.cell (World.block_lt_of_cell? w _ pX)).trans pX
        replace pY:=(HB.out.cell (World.block_lt_of_cell? w _ pY)).trans pY
        replace KM:=eq_true KM
        replace KN:=eq_true KN
        go_wp2_with (first|((with_reducible refine aG (N:=4) rfl ?_);refine az (by rfl) (N:=4) (by rfl) (cs:=#[U Z 0,U Z 0]) (t:=27) fM ?_;intro ajD hg w9 hbox hb;have R7:=aa.mk (hbox);have ajE:=dn HB hg;have ajF:=dn HB hg;replace HB:=dw HB hb;clear hb hbox hg;obtain ⟨rG,rH,rJ,rM⟩:=jq R7.out))
        go_ret
        exact ⟨kL,fu⟩
       ·rw [if_neg c8] at H
        have KI:decide (((oO l0 qW).f0) < (-1073741824)) = false:=decide_eq_false c8
        clear c8
        by_cases c11:((oO l0 qW).f1) > 1073741824
        ·rw [if_pos c11] at H
         have GN:decide (1073741824 < ((oO l0 qW).f1)) = true:=decide_eq_true c11
         clear c11
         obtain rfl:=Option.some.inj H
         have KM:0≤(qW:Int):=of_decide_eq_true qN
         have KN:qW < (l0.length:Int):=of_decide_eq_true qN
         obtain ⟨ajC,e129,pX,pY⟩:=WX XE.out qW KM KN
         cases e129
         replace pX:=(HB.out.cell (World.block_lt_of_cell? w _ pX)).trans pX
         replace pY:=(HB.out.cell (World.block_lt_of_cell? w _ pY)).trans pY
         replace KM:=eq_true KM
         replace KN:=eq_true KN
         go_wp2_with (first|((with_reducible refine aG (N:=4) rfl ?_);refine az (by rfl) (N:=4) (by rfl) (cs:=#[U Z 0,U Z 0]) (t:=27) fM ?_;intro ajD hg Nv hbox hb;have R7:=aa.mk (hbox);have ajE:=dn HB hg;have ajF:=dn HB hg;replace HB:=dw HB hb;clear hb hbox hg;obtain ⟨qY,qZ,q9,rf⟩:=jq R7.out))
         go_ret
         exact ⟨kL,fu⟩
        ·rw [if_neg c11] at H
         have GN:decide (1073741824 < ((oO l0 qW).f1)) = false:=decide_eq_false c11
         clear c11
         have H':=aa.mk H
         clear H
         have KM:0≤(qW:Int):=of_decide_eq_true qN
         have KN:qW < (l0.length:Int):=of_decide_eq_true qN
         obtain ⟨ajC,e129,pX,pY⟩:=WX XE.out qW KM KN
         cases e129
         replace pX:=(HB.out.cell (World.block_lt_of_cell? w _ pX)).trans pX
         replace pY:=(HB.out.cell (World.block_lt_of_cell? w _ pY)).trans pY
         replace KM:=eq_true KM
         replace KN:=eq_true KN
         go_wp2_with (first|((with_reducible refine aG (N:=4) rfl ?_);refine az (by rfl) (N:=4) (by rfl) (cs:=#[U Z 0,U Z 0]) (t:=27) fM ?_;intro ajD hg w14 hbox hb;have R7:=aa.mk (hbox);have ajE:=dn HB hg;have ajF:=dn HB hg;replace HB:=dw HB hb;clear hb hbox hg;obtain ⟨nI,nJ,nK,nL⟩:=jq R7.out))
         go_roundg k1
         case measure=>have:=G5.out;omega
         case rel=>exact ⟨(wrap64 (qW+1)),mg,H',⟨zq7⟩,⟨fu⟩⟩
     ·rw [if_neg c4] at H
      exact absurd H (by simp)
    ·rw [if_neg c3] at H
     exact absurd H (by simp)
   ·rw [if_neg c2] at H
    have Rs:decide (qW < (l0.length:Int)) = false:=decide_eq_false c2
    clear c2
    obtain rfl:=Option.some.inj H
    go_wp2
    go_ret
    exact ⟨kL,fu⟩
def jO.f (k:Nat) (ah:Int) (ai:Int):Option (Int):=(dB.f k (([(⟨ah,ai⟩:lu)]:List (lu)))).bind fun t135=>(some t135)
theorem jO.mono:∀ a0 a1 k,nR (jO.f k a0 a1) (jO.f (k+1) a0 a1):=by
 intro a0 a1 k
 unfold jO.f
 repeat' first
  |(with_reducible exact dB.mono _ _)
  |(with_reducible exact nR.refl _)
  |(with_reducible exact nR.none _)
  |(with_reducible refine nR.ite ?_ ?_)
  |(with_reducible refine nR.bind ?_ (fun _=>?_))
  |exact dB.mono _ _
  |exact nR.none _
  |refine nR.ite ?_ ?_
  |refine nR.bind ?_ (fun _=>?_)
set_option maxHeartbeats 8000000 in
set_option maxRecDepth 100000 in
theorem jO.calls (k:Nat) (ah:Int) (ai:Int) (r:Int) (w:World) (h:jO.f k ah ai = some r):
 Calls Try.prog 122 #[.agg #[U Z ah,U Z ai]] w fun e w'=>e = .returned (U Z r)∧Below w.heap.size w w':=by
 have oo:=Try.underlying27
 have HB:=aa.mk (Below.refl w.heap.size w)
 have H:((dB.f k (([(⟨ah,ai⟩:lu)]:List (lu)))).bind fun t135=>(some t135)) = some r:=h
 clear h
 obtain ⟨awj,YY⟩:∃ y_:List (lu),y_ = (([(⟨ah,ai⟩:lu)]:List (lu))):=⟨_,rfl⟩
 replace H:((dB.f k awj).bind fun t135=>(some t135)) = some r:=by first|(rw [YY];with_reducible exact H)|(have Ku:=(Option.bind_some _ _).symm.trans H;rw [YY];with_reducible exact Ku)|(have Ku:=(Option.bind_some _ _).symm.trans H;with_reducible exact Ku)|with_reducible exact H|(rw [YY];exact H)|exact H
 have aug:=aa.mk YY
 clear YY
 replace H:=Option.bind_eq_some_iff.mp H
 obtain ⟨t135,TC,H⟩:=H
 replace H:(some t135) = some r:=H
 have A2:=aa.mk TC
 clear TC
 obtain rfl:=Option.some.inj H
 go_enter Try.func122,Try.ntmps122
 go_wp2_with (first|((with_reducible refine aG (N:=1) rfl ?_);refine az (by rfl) (N:=1) (by rfl) (cs:=#[U Z ah,U Z ai]) (t:=27) fM ?_;intro aEA hg w3 hbox hb;have YZ:=aa.mk (hbox);have aSB:=dn HB hg;have aSC:=dn HB hg;replace HB:=dw HB hb;clear hb hbox hg;obtain ⟨Z0,Z4,Z5,Z6⟩:=jq YZ.out)|((with_reducible refine aG (N:=4) rfl ?_);refine Kd.Bn k27 _ 27 (by rfl) (N:=4) (by rfl) (xs:=([(⟨ah,ai⟩:lu)]:List (lu))) (inner:=[U Z ah,U Z ai]) (ok:=fun _=>True) (okp:=fun _=>True) fM (by exact (lT.c2 (show Kd.M k27 _ _ _ (⟨ah,ai⟩:lu) [U Z ah,U Z ai] from (Bd _ _ _ (⟨ah,ai⟩:lu))) (lT.none _ _))) (fun _ hk=>hk) trivial (Below.refl _ _) (Nat.le_refl _) (by simp) ?_;intro aUX w5 Rv hb Lc ow;clear Lc ow;(first|rw [← aug.out] at Rv|(simp only [Int.reduceToNat] at Rv;rw [← aug.out] at Rv));have Y0:=aa.mk (Kd.jH (Kd.qP Rv (g:=aEA) (o:=.cells #[U Z ah,U Z ai] 27 (0,0)) fB) (fJ fu));replace YZ:=bC YZ hb;replace HB:=dw HB hb;clear hb Rv;obtain ⟨Ao7,co7,eo7⟩:=Kd.jI Y0.out;subst eo7)|((with_reducible refine aN (f:=116) rfl ?_);refine bT (some 5) rfl rfl Try.func116 aY rfl #[.slice Ao7 awj.length co7] rfl iG ?_;(with_reducible refine (dB.calls k _ _ awj t135 _ ?df ?dh A2.out).mono ?_);(case df=>repeat (first|exact (Kd.fo Y0.out).2.2|(with_reducible refine Kd.bA ?_ _)|(with_reducible refine Kd.bB ?_ _)|(with_reducible refine Kd.bQ ?_)));(case dh=>exact (Kd.fo Y0.out).2.1);rintro e w8 ⟨rfl,hb⟩;refine ⟨_,rfl,?_⟩;replace Y0:=uW Y0 hb;replace YZ:=bC YZ hb;replace HB:=dw HB hb;(try clear hb);(try clear hb2);(try clear hk);(try clear hi)))
 go_ret
 exact ⟨kL,fu⟩
end Go.Proofs.Ytmhaiihjfgfaoaa.Pr
end
