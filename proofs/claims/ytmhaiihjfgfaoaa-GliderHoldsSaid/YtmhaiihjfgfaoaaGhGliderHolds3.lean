import Derived.Test.YtmhaiihjfgfaoaaProg
import Derived.Below
import Derived.Deep.Draws
import Derived.Deep.AppendLies
import Derived.Maps.AppendAt
import Derived.OwnWalk
import Derived.Laws.BytesArg
import Derived.Laws.MakeOwn
import Derived.Laws.OwnMore
import Derived.Deep.OwnRows
import Derived.Tactics
import Derived.Lib.ConvBytes
import Derived.Laws.Slices
import Derived.WalkKit
import Derived.KernelRfl
import Derived.RowKit3
import Derived.Deep.LoopGhost
import Derived.Deep.QuietTactic
import Derived.BigQuiet
import Derived.WideLaws
import Derived.Deep.DeepCutAuto
import Derived.Deep.CutBlock
import Derived.Deep.RegionHeld3
import Derived.Laws.Rows
import Derived.Lib.AppendStr
import Derived.ArgAppend
import Derived.Laws.IdiomCopy
import Derived.OrdersHeld
import Derived.Laws.BitsLemmas
import Derived.RowKit
import Derived.Test.YtmhaiihjfgfaoaaGhGliderHolds1
import Derived.Test.YtmhaiihjfgfaoaaGhGliderHolds2
section
namespace Go.Proofs.YtmhaiihjfgfaoaaW.PrintMore
open Go.RowKit Go.Proofs.YtmhaiihjfgfaoaaW.PrintWords
namespace Kd
open Go.Proofs.YtmhaiihjfgfaoaaW.PrintWords.Kd
end Kd
namespace Kd
open Go.Proofs.YtmhaiihjfgfaoaaW.PrintWords.Kd
section
variable {α:Type} {d:Kd α} {e base g N:Nat} {ok:Nat→Prop} {W w1:World} {u v:Value} {xs:List α}
end
end Kd
theorem cz (k k':IntKind) (x y:Int):Builtin.max2 (.int k x) (.int k' y) = pure (.int k (if x < y then y else x)):=by simp only [Builtin.max2,gt_iff_lt]
theorem cB (k k':IntKind) (x y:Int):Builtin.min2 (.int k x) (.int k' y) = pure (.int k (if y < x then y else x)):=by simp only [Builtin.min2]
theorem dK (ats:Array TypeId) (ty:TypeId) (a b:Value):Builtin.max_ ats ty #[a,b] = (Builtin.max2 a b >>= fun s=>pure s):=by simp only [Builtin.max_,List.foldlM_cons,List.foldlM_nil]
theorem dL (ats:Array TypeId) (ty:TypeId) (a b:Value):Builtin.min_ ats ty #[a,b] = (Builtin.min2 a b >>= fun s=>pure s):=by simp only [Builtin.min_,List.foldlM_cons,List.foldlM_nil]
theorem cK (ats:Array TypeId) (ty:TypeId) (a b c d:Value):Builtin.max_ ats ty #[a,b,c,d] = (Builtin.max2 a b >>= fun s=>Builtin.max2 s c >>= fun s=>Builtin.max2 s d >>= fun s=>pure s):=by simp only [Builtin.max_,List.foldlM_cons,List.foldlM_nil]
end Go.Proofs.YtmhaiihjfgfaoaaW.PrintMore
namespace Go.Proofs.YtmhaiihjfgfaoaaW.PrintWords
open Go.RowKit
section
variable {P:Program} {ops:Array Oper} {rest:List Oper} {o:Oper} {a:Act} {Q:Exit→Act→World→Prop} {W:World}
theorem aW {f:FuncId} {as_:Array Operand} {ts:Array TypeId} (_ho:o.op = .call { callee:=.value (.func f),args:=as_,argTypes:=ts }) (h:wpList P ops Q (o :: rest) a W):wpList P ops Q (o :: rest) a W:=h
theorem CQ {b:Builtin} {xs:Array Operand} {ts:Array TypeId} (_ho:o.op = .call { callee:=.builtin b,args:=xs,argTypes:=ts }) (h:wpList P ops Q (o :: rest) a W):wpList P ops Q (o :: rest) a W:=h
end
def mx (a b:Int):Int:=if a < b then b else a
def mn (a b:Int):Int:=if b < a then b else a
theorem Xf (w:World) (n:Nat):w.drewN n = w.drewN n:=rfl
namespace Kd
section
variable {α:Type} {d:Kd α} {e base:Nat} {ok:Nat→Prop} {W w1:World} {v:Value} {xs:List α}
end
section
variable {α:Type} {d:Kd α} {e base g n cap:Nat} {ok oki okp:Nat→Prop} {W:World} {xs:List α} {i:Int} {c:List Value}
end
section
variable {α:Type} {d:Kd α} {e base b b' g N:Nat} {ok ok1:Nat→Prop} {W W2 w1:World} {u v:Value} {xs ys:List α} {S:Nat→Prop}
end
end Kd
end Go.Proofs.YtmhaiihjfgfaoaaW.PrintWords
namespace Go.Proofs.YtmhaiihjfgfaoaaW.PrintWords
open Go.RowKit
namespace Kd
def V {α:Type} (d:Kd α) (_e:Nat) (W:World) (_base:Nat) (ok:Nat→Prop) (v:Value) (xs:List α):Prop:=∃ A c,v = .slice A xs.length c∧xs.length≤c∧F d W ok A xs.length xs
section
variable {α β:Type} {d:Kd α} {e base base' n m c g N' lo hi:Nat} {ok ok' S:Nat→Prop} {w W w1:World} {A:Option Addr} {ad:Addr} {u v v1:Value} {xs:List α}
end
end Kd
end Go.Proofs.YtmhaiihjfgfaoaaW.PrintWords
end
section
set_option linter.unusedVariables false
namespace Go.Proofs.YtmhaiihjfgfaoaaW.PrintMore
open Go.RowKit Go.Proofs.YtmhaiihjfgfaoaaW.PrintWords Go.Proofs.YtmhaiihjfgfaoaaW.PrintLast
theorem bC {W0 W W1:World} {g:Nat} {o:Obj} (h:ae (W0.heap[g]? = some o)) (hb:Below W.heap.size W W1) (h2:W.heap[g]? = some o:=by (repeat first|(with_reducible first|refine au ?_ _|refine ah ?_|refine ag ?_ _)|refine aM ?_ (ae.out (by assumption)) _);exact ae.out (by assumption)):ae (W1.heap[g]? = some o):=⟨aV h2 hb⟩
theorem dF {w W0 W W1:World} (h:ae (Below w.heap.size w W0)) (hb:Below W.heap.size W W1) (h2:Below w.heap.size w W:=by repeat (first|(with_reducible first|exact ae.out (by assumption)|apply aY|apply l5|apply bW|refine KL ?_ (ae.out (by assumption)))|exact ae.out (by assumption))):ae (Below w.heap.size w W1):=⟨dY h2 hb⟩
theorem dn {w W0 W:World} {g:Nat} (h:ae (Below w.heap.size w W0)) (hg:g = W.heap.size) (h2:Below w.heap.size w W:=by repeat (first|(with_reducible first|exact ae.out (by assumption)|apply aY|apply l5|apply bW|refine KL ?_ (ae.out (by assumption)))|exact ae.out (by assumption))):ae (w.heap.size≤g):=⟨by rw [hg];exact iG h2⟩
theorem iE {W0 W:World} {g g1:Nat} {o:Obj} (h:ae (W0.heap[g]? = some o)) (hg:g1 = W.heap.size) (h2:W.heap[g]? = some o:=by (repeat first|(with_reducible first|refine au ?_ _|refine ah ?_|refine ag ?_ _)|refine aM ?_ (ae.out (by assumption)) _);exact ae.out (by assumption)):ae (g≠g1):=⟨by rw [hg];exact Nat.ne_of_lt (dV h2)⟩
theorem iF {W0 W:World} {g g1:Nat} {o:Obj} (h:ae (W0.heap[g]? = some o)) (hg:g1 = W.heap.size) (h2:W.heap[g]? = some o:=by (repeat first|(with_reducible first|refine au ?_ _|refine ah ?_|refine ag ?_ _)|refine aM ?_ (ae.out (by assumption)) _);exact ae.out (by assumption)):ae (g1≠g):=⟨by rw [hg];exact Nat.ne_of_gt (dV h2)⟩
theorem gM {p:Prop} (h:p:=by repeat (first|(with_reducible first|exact ae.out (by assumption)|apply aY|apply l5|apply bW|refine KL ?_ (ae.out (by assumption)))|exact ae.out (by assumption))):p:=h
theorem iq {p:Prop} (h:p:=by (repeat first|(with_reducible first|refine au ?_ _|refine ah ?_|refine ag ?_ _)|refine aM ?_ (ae.out (by assumption)) _);exact ae.out (by assumption)):p:=h
theorem xB {α:Type} {d:Kd α} {e base:Nat} {ok:Nat→Prop} {v:Value} {xs:List α} {W0 W W1:World} (h:ae (d.R e W0 base ok v xs)) (hb:Below W.heap.size W W1) (h2:d.R e W base ok v xs:=by (with_reducible repeat (first|apply Kd.kK|apply Kd.kv|apply Kd.jo));exact ae.out (by assumption)):ae (d.R e W1 base ok v xs):=⟨Kd.pJ h2 hb⟩
theorem dJ {P:Program} {ops:Array Oper} {Q:Exit→Act→World→Prop} {S:World→Prop} {ds:List Nat} {md:Region.Mode} (i:Nat) (N:Option Tmp) {oi:Oper} {v:Value} {fuel:Nat} {l l':Array Bool} {a:Act} {w:World} (hc:aeo md ops l l' i = true) {a':Act}
 (h:eF P md ops Q S ds fuel l' a' w) (hl:l.setIfInBounds i true = l':=by simp only [List.setIfInBounds_toArray,List.set_cons_zero,List.set_cons_succ];rfl) (hi:ops[i]? = some oi:=by rfl) (hN:oi.dst = N:=by rfl) (hw:Region.wanted oi (yielded ops a.tmps) = true:=by rfl)
 (hy:∀ w,(execOp a.eval oi).run P w = .ok (.value v) w:=by intro w';go_simp;with_reducible rfl) (ha:a.put N v = a':=by simp only [Act.put,List.setIfInBounds_toArray,List.set_cons_zero,List.set_cons_succ,fD,fJ];rfl) (hQ:∀ c a w,Q (.panic c) (a.put oi.dst v) w→Q (.panic c) a w:=by exact fun _ _ _ h=>h):eF P md ops Q S ds (fuel+1) l a w:=mU l' hi hN hc hQ (Or.inl ⟨hw,hy⟩) ha h
theorem ja {P:Program} {ops:Array Oper} {Q:Exit→Act→World→Prop} {S:World→Prop} {ds:List Nat} {md:Region.Mode} (i:Nat) (N:Option Tmp) {oi:Oper} {v:Value} {fuel:Nat} {l l':Array Bool} {a:Act} {w:World} (hc:takeB md ops ds l l' i = true) {a':Act}
 (hS:S w) (h:eF P md ops Q S ds fuel l' a' w) (hl:l.setIfInBounds i true = l':=by simp only [List.setIfInBounds_toArray,List.set_cons_zero,List.set_cons_succ];rfl) (hi:ops[i]? = some oi:=by rfl) (hN:oi.dst = N:=by rfl) (hw:Region.wanted oi (yielded ops a.tmps) = true:=by rfl)
 (hy:∀ w,S w→(execOp a.eval oi).run P w = .ok (.value v) w:=by intro w' s_;repeat' obtain ⟨_,s_⟩:=s_;go_simp;with_reducible rfl) (ha:a.put N v = a':=by simp only [Act.put,List.setIfInBounds_toArray,List.set_cons_zero,List.set_cons_succ,fD,fJ];rfl) (hQ:∀ c a w,Q (.panic c) (a.put oi.dst v) w→Q (.panic c) a w:=by exact fun _ _ _ h=>h):eF P md ops Q S ds (fuel+1) l a w:=ap2 l' hi hN hc hQ (Or.inl ⟨hw,hy⟩) hS ha h
theorem II {W:World} {g:Nat} {x0 x1:Value} {T:TypeId} (h:W.heap[g]? = some (.cells #[x0,x1] T (0,0))):W.cell? ⟨g,0,none⟩ = some x0∧W.cell? ⟨g,1,none⟩ = some x1:=⟨(aa h 0).trans rfl,(aa h 1).trans rfl⟩
theorem nE {W:World} {g:Nat} {x0 x1:Value} {T:TypeId} (h:W.heap[g]? = some (.cells #[x0,x1] T (0,0))):W.cell? ⟨g,0,none⟩ = some x0∧W.cell? ⟨g,1,none⟩ = some x1∧W.frozen? ⟨g,0,none⟩ = false∧W.frozen? ⟨g,1,none⟩ = false:=⟨(aa h 0).trans rfl,(aa h 1).trans rfl,aX h 0,aX h 1⟩
theorem rV {W:World} {g:Nat} {x0 x1 x2 x3:Value} {T:TypeId} (h:W.heap[g]? = some (.cells #[x0,x1,x2,x3] T (0,0))):W.cell? ⟨g,0,none⟩ = some x0∧W.cell? ⟨g,1,none⟩ = some x1∧W.cell? ⟨g,2,none⟩ = some x2∧W.cell? ⟨g,3,none⟩ = some x3:=⟨(aa h 0).trans rfl,(aa h 1).trans rfl,(aa h 2).trans rfl,(aa h 3).trans rfl⟩
theorem af5 {W:World} {g:Nat} {x0 x1 x2 x3:Value} {T:TypeId} (h:W.heap[g]? = some (.cells #[x0,x1,x2,x3] T (0,0))):W.frozen? ⟨g,0,none⟩ = false∧W.frozen? ⟨g,1,none⟩ = false∧W.frozen? ⟨g,2,none⟩ = false∧W.frozen? ⟨g,3,none⟩ = false:=⟨aX h 0,aX h 1,aX h 2,aX h 3⟩
theorem iC {W:World} {g:Nat} {x0 x1 x2 x3:Value} {T:TypeId} (h:W.heap[g]? = some (.cells #[x0,x1,x2,x3] T (0,0))):W.cell? ⟨g,0,none⟩ = some x0∧W.cell? ⟨g,1,none⟩ = some x1∧W.cell? ⟨g,2,none⟩ = some x2∧W.cell? ⟨g,3,none⟩ = some x3∧W.frozen? ⟨g,0,none⟩ = false∧W.frozen? ⟨g,1,none⟩ = false∧W.frozen? ⟨g,2,none⟩ = false∧W.frozen? ⟨g,3,none⟩ = false:=⟨(aa h 0).trans rfl,(aa h 1).trans rfl,(aa h 2).trans rfl,(aa h 3).trans rfl,aX h 0,aX h 1,aX h 2,aX h 3⟩
theorem Gw {W:World} {g:Nat} {x0 x1 x2 x3:Value} {T:TypeId} {q:Prop} (h:W.heap[g]? = some (.cells #[x0,x1,x2,x3] T (0,0))) (r:q):W.cell? ⟨g,0,none⟩ = some x0∧W.cell? ⟨g,1,none⟩ = some x1∧W.cell? ⟨g,2,none⟩ = some x2∧W.cell? ⟨g,3,none⟩ = some x3∧q:=⟨(aa h 0).trans rfl,(aa h 1).trans rfl,(aa h 2).trans rfl,(aa h 3).trans rfl,r⟩
theorem Mk {W:World} {g:Nat} {x0 x1 x2 x3 x4 x5 x6:Value} {T:TypeId} (h:W.heap[g]? = some (.cells #[x0,x1,x2,x3,x4,x5,x6] T (0,0))):W.cell? ⟨g,0,none⟩ = some x0∧W.cell? ⟨g,1,none⟩ = some x1∧W.cell? ⟨g,2,none⟩ = some x2∧W.cell? ⟨g,3,none⟩ = some x3∧W.cell? ⟨g,4,none⟩ = some x4∧W.cell? ⟨g,5,none⟩ = some x5∧W.cell? ⟨g,6,none⟩ = some x6:=⟨(aa h 0).trans rfl,(aa h 1).trans rfl,(aa h 2).trans rfl,(aa h 3).trans rfl,(aa h 4).trans rfl,(aa h 5).trans rfl,(aa h 6).trans rfl⟩
theorem ko {W:World} {g:Nat} {x0 x1 x2 x3 x4 x5 x6:Value} {T:TypeId} (h:W.heap[g]? = some (.cells #[x0,x1,x2,x3,x4,x5,x6] T (0,0))):W.cell? ⟨g,0,none⟩ = some x0∧W.cell? ⟨g,1,none⟩ = some x1∧W.cell? ⟨g,2,none⟩ = some x2∧W.cell? ⟨g,3,none⟩ = some x3∧W.cell? ⟨g,4,none⟩ = some x4∧W.cell? ⟨g,5,none⟩ = some x5∧W.cell? ⟨g,6,none⟩ = some x6∧W.frozen? ⟨g,0,none⟩ = false∧W.frozen? ⟨g,1,none⟩ = false∧W.frozen? ⟨g,2,none⟩ = false∧W.frozen? ⟨g,3,none⟩ = false∧W.frozen? ⟨g,4,none⟩ = false∧W.frozen? ⟨g,5,none⟩ = false∧W.frozen? ⟨g,6,none⟩ = false:=⟨(aa h 0).trans rfl,(aa h 1).trans rfl,(aa h 2).trans rfl,(aa h 3).trans rfl,(aa h 4).trans rfl,(aa h 5).trans rfl,(aa h 6).trans rfl,aX h 0,aX h 1,aX h 2,aX h 3,aX h 4,aX h 5,aX h 6⟩
theorem acy {W:World} {g:Nat} {x0 x1 x2 x3 x4 x5 x6:Value} {T:TypeId} {q:Prop} (h:W.heap[g]? = some (.cells #[x0,x1,x2,x3,x4,x5,x6] T (0,0))) (r:q):W.cell? ⟨g,0,none⟩ = some x0∧W.cell? ⟨g,1,none⟩ = some x1∧W.cell? ⟨g,2,none⟩ = some x2∧W.cell? ⟨g,3,none⟩ = some x3∧W.cell? ⟨g,4,none⟩ = some x4∧W.cell? ⟨g,5,none⟩ = some x5∧W.cell? ⟨g,6,none⟩ = some x6∧q:=⟨(aa h 0).trans rfl,(aa h 1).trans rfl,(aa h 2).trans rfl,(aa h 3).trans rfl,(aa h 4).trans rfl,(aa h 5).trans rfl,(aa h 6).trans rfl,r⟩
theorem xG {W:World} {g:Nat} {x0 x1 x2 x3 x4 x5 x6 x7 x8:Value} {T:TypeId} (h:W.heap[g]? = some (.cells #[x0,x1,x2,x3,x4,x5,x6,x7,x8] T (0,0))):W.cell? ⟨g,0,none⟩ = some x0∧W.cell? ⟨g,1,none⟩ = some x1∧W.cell? ⟨g,2,none⟩ = some x2∧W.cell? ⟨g,3,none⟩ = some x3∧W.cell? ⟨g,4,none⟩ = some x4∧W.cell? ⟨g,5,none⟩ = some x5∧W.cell? ⟨g,6,none⟩ = some x6∧W.cell? ⟨g,7,none⟩ = some x7∧W.cell? ⟨g,8,none⟩ = some x8:=⟨(aa h 0).trans rfl,(aa h 1).trans rfl,(aa h 2).trans rfl,(aa h 3).trans rfl,(aa h 4).trans rfl,(aa h 5).trans rfl,(aa h 6).trans rfl,(aa h 7).trans rfl,(aa h 8).trans rfl⟩
theorem iI {W:World} {g:Nat} {x0 x1 x2 x3 x4 x5 x6 x7 x8:Value} {T:TypeId} (h:W.heap[g]? = some (.cells #[x0,x1,x2,x3,x4,x5,x6,x7,x8] T (0,0))):W.cell? ⟨g,0,none⟩ = some x0∧W.cell? ⟨g,1,none⟩ = some x1∧W.cell? ⟨g,2,none⟩ = some x2∧W.cell? ⟨g,3,none⟩ = some x3∧W.cell? ⟨g,4,none⟩ = some x4∧W.cell? ⟨g,5,none⟩ = some x5∧W.cell? ⟨g,6,none⟩ = some x6∧W.cell? ⟨g,7,none⟩ = some x7∧W.cell? ⟨g,8,none⟩ = some x8∧W.frozen? ⟨g,0,none⟩ = false∧W.frozen? ⟨g,1,none⟩ = false∧W.frozen? ⟨g,2,none⟩ = false∧W.frozen? ⟨g,3,none⟩ = false∧W.frozen? ⟨g,4,none⟩ = false∧W.frozen? ⟨g,5,none⟩ = false∧W.frozen? ⟨g,6,none⟩ = false∧W.frozen? ⟨g,7,none⟩ = false∧W.frozen? ⟨g,8,none⟩ = false:=⟨(aa h 0).trans rfl,(aa h 1).trans rfl,(aa h 2).trans rfl,(aa h 3).trans rfl,(aa h 4).trans rfl,(aa h 5).trans rfl,(aa h 6).trans rfl,(aa h 7).trans rfl,(aa h 8).trans rfl,aX h 0,aX h 1,aX h 2,aX h 3,aX h 4,aX h 5,aX h 6,aX h 7,aX h 8⟩
theorem uq {W:World} {g:Nat} {x0 x1 x2 x3 x4 x5 x6 x7 x8:Value} {T:TypeId} {q:Prop} (h:W.heap[g]? = some (.cells #[x0,x1,x2,x3,x4,x5,x6,x7,x8] T (0,0))) (r:q):W.cell? ⟨g,0,none⟩ = some x0∧W.cell? ⟨g,1,none⟩ = some x1∧W.cell? ⟨g,2,none⟩ = some x2∧W.cell? ⟨g,3,none⟩ = some x3∧W.cell? ⟨g,4,none⟩ = some x4∧W.cell? ⟨g,5,none⟩ = some x5∧W.cell? ⟨g,6,none⟩ = some x6∧W.cell? ⟨g,7,none⟩ = some x7∧W.cell? ⟨g,8,none⟩ = some x8∧q:=⟨(aa h 0).trans rfl,(aa h 1).trans rfl,(aa h 2).trans rfl,(aa h 3).trans rfl,(aa h 4).trans rfl,(aa h 5).trans rfl,(aa h 6).trans rfl,(aa h 7).trans rfl,(aa h 8).trans rfl,r⟩
theorem zq0 {p:Prop} (h:p:=by rw [← zY _ _ 1 (by omega)];exact hc 1 _ rfl):p:=h
theorem gQ {p:Prop} (h:p:=by first|(go_simp;done)|(go_simp;rfl)):p:=h
theorem lJ {p:Prop} (h:p:=by first|rfl|(simp [kr,ku] <;> rfl)|(simp [*,kr,ku] <;> rfl)):p:=h
theorem nI {p:Prop} (h:p:=by first|rfl|(simp;done)|(simp [*];done)):p:=h
theorem R4 {p:Prop} (h:p:=by repeat (first|exact qi.refl _|apply qi.step)):p:=h
theorem aR {p:Prop} (h:p:=by kernel_rfl):p:=h
theorem jJ {p:Prop} (h:p:=by (try simp only [List.map_toArray,List.map_cons,List.map_nil]);first|done|rfl|(simp only [List.length_drop,List.length_take];rfl)):p:=h
theorem Ww {p:Prop} (h:p:=by first|omega|exact Nat.le_refl _):p:=h
theorem lX {p:Prop} (h:p:=by first|(with_reducible assumption)|assumption):p:=h
theorem zq9 {p:Prop} (h:p:=by show Act.put _ (some 116) _ = _;simp only [Act.put,List.setIfInBounds_toArray,List.set_cons_zero,List.set_cons_succ,fD,fJ];rfl):p:=h
theorem at6 {p:Prop} (h:p:=by show Act.put _ (some 130) _ = _;simp only [Act.put,List.setIfInBounds_toArray,List.set_cons_zero,List.set_cons_succ,fD,fJ];rfl):p:=h
theorem RF {p:Prop} (h:p:=by have:=Mi.out;omega):p:=h
theorem afb {p:Prop} (h:p:=by first|rfl|(simp [kr,ku] <;> rfl)|(simp only [← Ih];first|rfl|(simp [kr,ku] <;> rfl))|(simp [*,kr,ku] <;> rfl)):p:=h
theorem acr {p:Prop} (h:p:=by first|exact Kd.Uq _ _ _ _ _|exact Kd.aHR _ _ _ _ _|exact Kd.aHS _ _ _ _ _|exact Kd.aHT _ _ _ _ _|exact Kd.aHU _ _ _ _ _):p:=h
theorem at7 {p:Prop} (h:p:=by (with_reducible repeat (first|apply Kd.kK|apply Kd.kv|apply Kd.jo));exact uR.out):p:=h
theorem PE {p:Prop} (h:p:=by rw [HR.out];rfl):p:=h
theorem PG {p:Prop} (h:p:=by repeat (first|exact Below.refl _ _|apply aY|apply bW|apply l5)):p:=h
theorem adI {p:Prop} (h:p:=by have h_:=fT w (.cells #[.int .i64 s.nx,.int .i64 s.ny,.int .i64 s.cell,.int .i64 s.slot,.int .i64 s.slots,.int .i64 s.layers,.int .i64 s.most,.slice A7 s.shores.length c7,.slice A8 s.currents.length c8] 25);first|exact h_|(simp only [World.size_alloc] at h_;exact h_)):p:=h
theorem zS {p:Prop} (h:p:=by rw [HZ.out];rfl):p:=h
theorem abu {p:Prop} (h:p:=by simp only [List.map_toArray,List.map_cons,List.map_nil];rfl):p:=h
theorem arU {p:Prop} (h:p:=by show Act.put _ (some 31) _ = _;simp only [Act.put,List.setIfInBounds_toArray,List.set_cons_zero,List.set_cons_succ,fD,fJ];rfl):p:=h
theorem aoE {p:Prop} (h:p:=by have h_:=fT w (.cells #[.pointer (some ⟨b,0,none⟩)] 104);first|exact h_|(simp only [World.size_alloc] at h_;exact h_)):p:=h
theorem aoF {p:Prop} (h:p:=by have h_:=fT (w.alloc (.cells #[.pointer (some ⟨b,0,none⟩)] 104)) (.cells #[.int .i64 x.f0.f0,.int .i64 x.f0.f1,.int .i64 x.f1.f0,.int .i64 x.f1.f1] 31);first|exact h_|(simp only [World.size_alloc] at h_;exact h_)):p:=h
theorem abp {p:Prop} (h:p:=by show Act.put _ (some 16) _ = _;simp only [Act.put,List.setIfInBounds_toArray,List.set_cons_zero,List.set_cons_succ,fD,fJ];rfl):p:=h
theorem af6 {p:Prop} (h:p:=by have h_:=fT w (.cells #[.int .i64 x.f0.f0,.int .i64 x.f0.f1,.int .i64 x.f1.f0,.int .i64 x.f1.f1] 31);first|exact h_|(simp only [World.size_alloc] at h_;exact h_)):p:=h
theorem WL {p:Prop} (h:p:=by rw [HV2.out,HZ.out];rfl):p:=h
theorem WN {p:Prop} (h:p:=by show Act.put _ (some 13) _ = _;simp only [Act.put,List.setIfInBounds_toArray,List.set_cons_zero,List.set_cons_succ,fD,fJ];rfl):p:=h
theorem aoU {p:Prop} (h:p:=by show Act.put _ (some 11) _ = _;simp only [Act.put,List.setIfInBounds_toArray,List.set_cons_zero,List.set_cons_succ,fD,fJ];rfl):p:=h
theorem af9 {p:Prop} (h:p:=by first|(simp only [vQ,Act.put,List.setIfInBounds_toArray,List.set_cons_zero,List.set_cons_succ];done)|(simp only [vQ,Act.put,List.setIfInBounds_toArray,List.set_cons_zero,List.set_cons_succ];rfl)):p:=h
theorem adx {p:Prop} (h:p:=by show Act.put _ (some 29) _ = _;simp only [Act.put,List.setIfInBounds_toArray,List.set_cons_zero,List.set_cons_succ,fD,fJ];rfl):p:=h
theorem aoV {p:Prop} (h:p:=by show Act.put _ (some 12) _ = _;simp only [Act.put,List.setIfInBounds_toArray,List.set_cons_zero,List.set_cons_succ,fD,fJ];rfl):p:=h
theorem aoW {p:Prop} (h:p:=by show Act.put _ (some 43) _ = _;simp only [Act.put,List.setIfInBounds_toArray,List.set_cons_zero,List.set_cons_succ,fD,fJ];rfl):p:=h
theorem amw {p:Prop} (h:p:=by exact (lV.c2 (show Kd.M k27 _ _ _ (⟨aj,ak⟩:nD) [.int .i64 aj,.int .i64 ak] from (CR _ _ _ (⟨aj,ak⟩:nD))) (lV.c2 (show Kd.M k27 _ _ _ (⟨ax,ay⟩:nD) [.int .i64 ax,.int .i64 ay] from (CR _ _ _ (⟨ax,ay⟩:nD))) (lV.none _ _)))):p:=h
theorem ao6 {p:Prop} (h:p:=by show Act.put _ (some 20) _ = _;simp only [Act.put,List.setIfInBounds_toArray,List.set_cons_zero,List.set_cons_succ,fD,fJ];rfl):p:=h
theorem age {p:Prop} (h:p:=by show Act.put _ (some 24) _ = _;simp only [Act.put,List.setIfInBounds_toArray,List.set_cons_zero,List.set_cons_succ,fD,fJ];rfl):p:=h
theorem ao7 {p:Prop} (h:p:=by show Act.put _ (some 28) _ = _;simp only [Act.put,List.setIfInBounds_toArray,List.set_cons_zero,List.set_cons_succ,fD,fJ];rfl):p:=h
theorem ao8 {p:Prop} (h:p:=by first|rfl|(simp [kr,ku] <;> rfl)|(simp only [← Rw,← Rx,← IJ];first|rfl|(simp [kr,ku] <;> rfl))|(simp [*,kr,ku] <;> rfl)):p:=h
theorem agk {p:Prop} (h:p:=by have h_:=fT (w.alloc (.cells #[.int .i64 s.nx,.int .i64 s.ny,.int .i64 s.cell,.int .i64 s.slot,.int .i64 s.slots,.int .i64 s.layers,.int .i64 s.most,.slice A7 s.shores.length c7,.slice A8 s.currents.length c8] 25)) (.cells #[.int .i64 v.speed,.int .i64 v.dive,.int .i64 v.use.f0,.int .i64 v.use.f1,.int .i64 v.drift.f0,.int .i64 v.drift.f1,.int .i64 v.reserve] 29);first|exact h_|(simp only [World.size_alloc] at h_;exact h_)):p:=h
theorem amC {p:Prop} (h:p:=by have h_:=fT ((w.alloc (.cells #[.int .i64 s.nx,.int .i64 s.ny,.int .i64 s.cell,.int .i64 s.slot,.int .i64 s.slots,.int .i64 s.layers,.int .i64 s.most,.slice A7 s.shores.length c7,.slice A8 s.currents.length c8] 25)).alloc (.cells #[.int .i64 v.speed,.int .i64 v.dive,.int .i64 v.use.f0,.int .i64 v.use.f1,.int .i64 v.drift.f0,.int .i64 v.drift.f1,.int .i64 v.reserve] 29)) (.cells #[.int .i64 x.f0.f0,.int .i64 x.f0.f1,.int .i64 x.f1.f0,.int .i64 x.f1.f1] 31);first|exact h_|(simp only [World.size_alloc] at h_;exact h_)):p:=h
theorem agq {p:Prop} (h:p:=by show Act.put _ (some 14) _ = _;simp only [Act.put,List.setIfInBounds_toArray,List.set_cons_zero,List.set_cons_succ,fD,fJ];rfl):p:=h
theorem amM {p:Prop} (h:p:=by show Act.put _ (some 3) _ = _;simp only [Act.put,List.setIfInBounds_toArray,List.set_cons_zero,List.set_cons_succ,fD,fJ];rfl):p:=h
theorem P7 {p:Prop} (h:p:=by simp only [vQ,Act.put,List.setIfInBounds_toArray,List.set_cons_zero,List.set_cons_succ]):p:=h
theorem amN {p:Prop} (h:p:=by (with_reducible repeat (first|apply Kd.kK|apply Kd.kv|apply Kd.jo));exact kI.out):p:=h
theorem amO {p:Prop} (h:p:=by (with_reducible repeat (first|apply Kd.kK|apply Kd.kv|apply Kd.jo));exact kJ.out):p:=h
theorem ana {p:Prop} (h:p:=by exact (lV.one (show Kd.M (Kd.int .i64) _ _ _ 0 [.int .i64 0] from rfl) (lV.one (show Kd.M (Kd.int .i64) _ _ _ 707 [.int .i64 707] from rfl) (lV.one (show Kd.M (Kd.int .i64) _ _ _ 1000 [.int .i64 1000] from rfl) (lV.one (show Kd.M (Kd.int .i64) _ _ _ 707 [.int .i64 707] from rfl) (lV.one (show Kd.M (Kd.int .i64) _ _ _ 0 [.int .i64 0] from rfl) (lV.one (show Kd.M (Kd.int .i64) _ _ _ (-707) [.int .i64 (-707)] from rfl) (lV.one (show Kd.M (Kd.int .i64) _ _ _ (-1000) [.int .i64 (-1000)] from rfl) (lV.one (show Kd.M (Kd.int .i64) _ _ _ (-707) [.int .i64 (-707)] from rfl) (lV.one (show Kd.M (Kd.int .i64) _ _ _ 0 [.int .i64 0] from rfl) (lV.none _ _))))))))))):p:=h
theorem anb {p:Prop} (h:p:=by exact (lV.one (show Kd.M (Kd.int .i64) _ _ _ 1000 [.int .i64 1000] from rfl) (lV.one (show Kd.M (Kd.int .i64) _ _ _ 707 [.int .i64 707] from rfl) (lV.one (show Kd.M (Kd.int .i64) _ _ _ 0 [.int .i64 0] from rfl) (lV.one (show Kd.M (Kd.int .i64) _ _ _ (-707) [.int .i64 (-707)] from rfl) (lV.one (show Kd.M (Kd.int .i64) _ _ _ (-1000) [.int .i64 (-1000)] from rfl) (lV.one (show Kd.M (Kd.int .i64) _ _ _ (-707) [.int .i64 (-707)] from rfl) (lV.one (show Kd.M (Kd.int .i64) _ _ _ 0 [.int .i64 0] from rfl) (lV.one (show Kd.M (Kd.int .i64) _ _ _ 707 [.int .i64 707] from rfl) (lV.one (show Kd.M (Kd.int .i64) _ _ _ 0 [.int .i64 0] from rfl) (lV.none _ _))))))))))):p:=h
theorem abV {p:Prop} (h:p:=by (with_reducible repeat (first|apply Kd.kK|apply Kd.kv|apply Kd.jo));exact C8.out):p:=h
theorem anj {p:Prop} (h:p:=by show Act.put _ (some 49) _ = _;simp only [Act.put,List.setIfInBounds_toArray,List.set_cons_zero,List.set_cons_succ,fD,fJ];rfl):p:=h
theorem ank {p:Prop} (h:p:=by show Act.put _ (some 50) _ = _;simp only [Act.put,List.setIfInBounds_toArray,List.set_cons_zero,List.set_cons_succ,fD,fJ];rfl):p:=h
theorem aqe {p:Prop} (h:p:=by (try simp only [List.map_toArray,List.map_cons,List.map_nil]);first|done|(simp only [QS];rfl)|rfl|(simp only [List.length_drop,List.length_take];rfl)):p:=h
theorem ag9 {p:Prop} (h:p:=by have:=Mi.out;have:=Xl.out;have:=YU.out;omega):p:=h
theorem ann {p:Prop} (h:p:=by show Act.put _ (some 32) _ = _;simp only [Act.put,List.setIfInBounds_toArray,List.set_cons_zero,List.set_cons_succ,fD,fJ];rfl):p:=h
theorem aqO {p:Prop} (h:p:=by show Act.put _ (some 26) _ = _;simp only [Act.put,List.setIfInBounds_toArray,List.set_cons_zero,List.set_cons_succ,fD,fJ];rfl):p:=h
theorem aqP {p:Prop} (h:p:=by show Act.put _ (some 30) _ = _;simp only [Act.put,List.setIfInBounds_toArray,List.set_cons_zero,List.set_cons_succ,fD,fJ];rfl):p:=h
theorem ajb {p:Prop} (h:p:=by show Act.put _ (some 37) _ = _;simp only [Act.put,List.setIfInBounds_toArray,List.set_cons_zero,List.set_cons_succ,fD,fJ];rfl):p:=h
theorem Vy {p:Prop} (h:p:=by (with_reducible repeat (first|apply Kd.kK|apply Kd.kv|apply Kd.jo));exact mr.out):p:=h
theorem ajc {p:Prop} (h:p:=by show Act.put _ (some 15) _ = _;simp only [Act.put,List.setIfInBounds_toArray,List.set_cons_zero,List.set_cons_succ,fD,fJ];rfl):p:=h
theorem akc {p:Prop} (h:p:=by have:=World.block_lt_of_cell? _ _ kX;first|rwa [add_block] at this|exact this):p:=h
theorem Vz {p:Prop} (h:p:=by first|exact Nat.ne_of_lt (Nat.lt_of_lt_of_le akc vN.out)|(rw [add_block];exact Nat.ne_of_lt (Nat.lt_of_lt_of_le akc vN.out))|(show (Addr.add _ _).block≠_;rw [add_block];exact Nat.ne_of_lt (Nat.lt_of_lt_of_le akc vN.out))|(dsimp only;exact Nat.ne_of_lt (Nat.lt_of_lt_of_le akc vN.out))):p:=h
theorem akd {p:Prop} (h:p:=by have:=World.block_lt_of_cell? _ _ kW;first|rwa [add_block] at this|exact this):p:=h
theorem VA {p:Prop} (h:p:=by first|exact Nat.ne_of_lt (Nat.lt_of_lt_of_le akd vN.out)|(rw [add_block];exact Nat.ne_of_lt (Nat.lt_of_lt_of_le akd vN.out))|(show (Addr.add _ _).block≠_;rw [add_block];exact Nat.ne_of_lt (Nat.lt_of_lt_of_le akd vN.out))|(dsimp only;exact Nat.ne_of_lt (Nat.lt_of_lt_of_le akd vN.out))):p:=h
theorem ajz {p:Prop} (h:p:=by (with_reducible repeat (first|apply Kd.kK|apply Kd.kv|apply Kd.jo));exact J4.out):p:=h
theorem arE {p:Prop} (h:p:=by (with_reducible repeat (first|apply Kd.kK|apply Kd.kv|apply Kd.jo));exact Kd.lv J4.out (fun _ hk=>hk.1.2)):p:=h
theorem Xz {p:Prop} (h:p:=by (with_reducible repeat (first|apply Kd.kK|apply Kd.kv|apply Kd.jo));exact jW.out):p:=h
theorem anF {p:Prop} (h:p:=by have:=HJ7.out;have:=aeX.out;have:=YU.out;have:=HK4.out;first|omega|exact Nat.le_refl _):p:=h
theorem ake {p:Prop} (h:p:=by have:=World.block_lt_of_cell? _ _ Kb;first|rwa [add_block] at this|exact this):p:=h
theorem ajQ {p:Prop} (h:p:=by first|exact Nat.ne_of_lt (Nat.lt_of_lt_of_le ake o5.out)|(rw [add_block];exact Nat.ne_of_lt (Nat.lt_of_lt_of_le ake o5.out))|(show (Addr.add _ _).block≠_;rw [add_block];exact Nat.ne_of_lt (Nat.lt_of_lt_of_le ake o5.out))|(dsimp only;exact Nat.ne_of_lt (Nat.lt_of_lt_of_le ake o5.out))):p:=h
theorem akf {p:Prop} (h:p:=by have:=World.block_lt_of_cell? _ _ Ka;first|rwa [add_block] at this|exact this):p:=h
theorem ajR {p:Prop} (h:p:=by first|exact Nat.ne_of_lt (Nat.lt_of_lt_of_le akf o5.out)|(rw [add_block];exact Nat.ne_of_lt (Nat.lt_of_lt_of_le akf o5.out))|(show (Addr.add _ _).block≠_;rw [add_block];exact Nat.ne_of_lt (Nat.lt_of_lt_of_le akf o5.out))|(dsimp only;exact Nat.ne_of_lt (Nat.lt_of_lt_of_le akf o5.out))):p:=h
theorem akg {p:Prop} (h:p:=by have:=World.block_lt_of_cell? _ _ Kn;first|rwa [add_block] at this|exact this):p:=h
theorem ajS {p:Prop} (h:p:=by first|exact Nat.ne_of_lt (Nat.lt_of_lt_of_le akg o5.out)|(rw [add_block];exact Nat.ne_of_lt (Nat.lt_of_lt_of_le akg o5.out))|(show (Addr.add _ _).block≠_;rw [add_block];exact Nat.ne_of_lt (Nat.lt_of_lt_of_le akg o5.out))|(dsimp only;exact Nat.ne_of_lt (Nat.lt_of_lt_of_le akg o5.out))):p:=h
theorem akh {p:Prop} (h:p:=by have:=World.block_lt_of_cell? _ _ Km;first|rwa [add_block] at this|exact this):p:=h
theorem ajT {p:Prop} (h:p:=by first|exact Nat.ne_of_lt (Nat.lt_of_lt_of_le akh o5.out)|(rw [add_block];exact Nat.ne_of_lt (Nat.lt_of_lt_of_le akh o5.out))|(show (Addr.add _ _).block≠_;rw [add_block];exact Nat.ne_of_lt (Nat.lt_of_lt_of_le akh o5.out))|(dsimp only;exact Nat.ne_of_lt (Nat.lt_of_lt_of_le akh o5.out))):p:=h
theorem aki {p:Prop} (h:p:=by have:=World.block_lt_of_cell? _ _ Kl;first|rwa [add_block] at this|exact this):p:=h
theorem ajU {p:Prop} (h:p:=by first|exact Nat.ne_of_lt (Nat.lt_of_lt_of_le aki o5.out)|(rw [add_block];exact Nat.ne_of_lt (Nat.lt_of_lt_of_le aki o5.out))|(show (Addr.add _ _).block≠_;rw [add_block];exact Nat.ne_of_lt (Nat.lt_of_lt_of_le aki o5.out))|(dsimp only;exact Nat.ne_of_lt (Nat.lt_of_lt_of_le aki o5.out))):p:=h
theorem akj {p:Prop} (h:p:=by have:=World.block_lt_of_cell? _ _ Kk;first|rwa [add_block] at this|exact this):p:=h
theorem ajV {p:Prop} (h:p:=by first|exact Nat.ne_of_lt (Nat.lt_of_lt_of_le akj o5.out)|(rw [add_block];exact Nat.ne_of_lt (Nat.lt_of_lt_of_le akj o5.out))|(show (Addr.add _ _).block≠_;rw [add_block];exact Nat.ne_of_lt (Nat.lt_of_lt_of_le akj o5.out))|(dsimp only;exact Nat.ne_of_lt (Nat.lt_of_lt_of_le akj o5.out))):p:=h
theorem asv {p:Prop} (h:p:=by (try simp only [List.map_toArray,List.map_cons,List.map_nil]);first|done|(simp only [aaG];rfl)|rfl|(simp only [List.length_drop,List.length_take];rfl)):p:=h
end Go.Proofs.YtmhaiihjfgfaoaaW.PrintMore
end
section
namespace Go.Proofs.Ytmhaiihjfgfaoaa.Pr
open Go.RowKit Go.Proofs.YtmhaiihjfgfaoaaW.PrintWords Go.Proofs.YtmhaiihjfgfaoaaW.PrintLast Go.Proofs.YtmhaiihjfgfaoaaW.PrintMore
attribute [local go_sem] cz cB dK dL cK
set_option linter.unusedVariables false
set_option linter.unusedSimpArgs false
def aua:Option Int→Value
 |none=>.nilIface
 |some c=>.iface 0 (.int .i64 c)
theorem kr:aua none = .nilIface:=rfl
theorem ku (c:Int):aua (some c) = .iface 0 (.int .i64 c):=rfl
theorem aub:(Try.prog.info? 4).map (fun i=>(i.zero,i.size,i.bytes)) = some (some (.bool false),1,1):=by kernel_rfl
theorem aeG:(Try.prog.info? 31).map (fun i=>(i.zero,i.size,i.bytes)) = some (some (.agg #[(.int .i64 0),(.int .i64 0),(.int .i64 0),(.int .i64 0)]),4,32):=by kernel_rfl
theorem anW:(Try.prog.info? 40).map (fun i=>(i.zero,i.size,i.bytes)) = some (some (.agg #[(.int .i64 0),(.int .i64 0),(.int .i64 0),(.int .i64 0)]),4,32):=by kernel_rfl
structure nD where
 f0:Int
 f1:Int
def z27:nD:=⟨(0:Int),(0:Int)⟩
def k27:Kd nD:=Kd.iso (Kd.pair (Kd.int .i64) (Kd.int .i64)) (fun x:nD=>(x.f0,x.f1))
theorem xU {w:World} {x:nD} {cs:List Value} (h:k27.K w x cs):cs = [.int .i64 x.f0,.int .i64 x.f1]:=by
 obtain ⟨_,_,rfl,rfl,rfl⟩:=h
 exact rfl
theorem CR (w:World) (base:Nat) (ok:Nat→Prop) (x:nD):k27.M w base ok x [.int .i64 x.f0,.int .i64 x.f1]:=⟨[.int .i64 x.f0],[.int .i64 x.f1],rfl,rfl,rfl⟩
def nz (xs:List nD) (i:Int):nD:=xs.getD i.toNat z27
theorem TT {w:World} {A:Option Addr} {n:Nat} {xs:List nD} (h:Kd.C k27 w A n xs) (i:Int) (h0:0≤i) (h1:i < n):∃ ad,A = some ad∧w.cell? (ad.add (i.toNat*2)) = some (.int .i64 (nz xs i).f0)∧w.cell? ⟨(ad.add (i.toNat*2)).block,(ad.add (i.toNat*2)).off+1,none⟩ = some (.int .i64 (nz xs i).f1):=by
 obtain ⟨ad,c,e,_,hK,hc0⟩:=Kd.Yd h z27 i h0 h1
 have hc:∀ j u,c[j]? = some u→w.cell? (ad.add (i.toNat*2+j)) = some u:=hc0
 obtain rfl:=xU hK
 exact ⟨ad,e,hc 0 _ rfl,zq0⟩
structure nU where
 f0:nD
 f1:nD
def z40:nU:=⟨z27,z27⟩
def CY:Kd nU:=Kd.iso (Kd.pair k27 k27) (fun x:nU=>(x.f0,x.f1))
theorem afc {w:World} {x:nU} {cs:List Value} (h:CY.K w x cs):cs = [.int .i64 x.f0.f0,.int .i64 x.f0.f1,.int .i64 x.f1.f0,.int .i64 x.f1.f1]:=by
 obtain ⟨_,_,rfl,s0,s2⟩:=h
 obtain rfl:=xU s0
 obtain rfl:=xU s2
 exact rfl
theorem akk (w:World) (base:Nat) (ok:Nat→Prop) (x:nU):CY.M w base ok x [.int .i64 x.f0.f0,.int .i64 x.f0.f1,.int .i64 x.f1.f0,.int .i64 x.f1.f1]:=⟨[.int .i64 x.f0.f0,.int .i64 x.f0.f1],[.int .i64 x.f1.f0,.int .i64 x.f1.f1],rfl,(CR w base ok x.f0),(CR w base ok x.f1)⟩
def aH (xs:List nU) (i:Int):nU:=xs.getD i.toNat z40
theorem zR {w:World} {A:Option Addr} {n:Nat} {xs:List nU} (h:Kd.C CY w A n xs) (i:Int) (h0:0≤i) (h1:i < n):∃ ad,A = some ad∧w.cell? (ad.add (i.toNat*4)) = some (.int .i64 (aH xs i).f0.f0)∧w.cell? ⟨(ad.add (i.toNat*4)).block,(ad.add (i.toNat*4)).off+1,none⟩ = some (.int .i64 (aH xs i).f0.f1)∧w.cell? ⟨(ad.add (i.toNat*4)).block,(ad.add (i.toNat*4)).off+2,none⟩ = some (.int .i64 (aH xs i).f1.f0)∧w.cell? ⟨(ad.add (i.toNat*4)).block,(ad.add (i.toNat*4)).off+3,none⟩ = some (.int .i64 (aH xs i).f1.f1):=by
 obtain ⟨ad,c,e,_,hK,hc0⟩:=Kd.Yd h z40 i h0 h1
 have hc:∀ j u,c[j]? = some u→w.cell? (ad.add (i.toNat*4+j)) = some u:=hc0
 obtain rfl:=afc hK
 exact ⟨ad,e,hc 0 _ rfl,zq0,by rw [← zY _ _ 2 (by omega)];exact hc 2 _ rfl,by rw [← zY _ _ 3 (by omega)];exact hc 3 _ rfl⟩
structure S25 where
 f0:Int
 f1:Int
 f2:Int
 f3:Int
 f4:Int
 f5:Int
 f6:Int
 f7:(List Bool)
 f8:(List nU)
def k25:Kd S25:=Kd.iso (Kd.pair (Kd.int .i64) (Kd.pair (Kd.int .i64) (Kd.pair (Kd.int .i64) (Kd.pair (Kd.int .i64) (Kd.pair (Kd.int .i64) (Kd.pair (Kd.int .i64) (Kd.pair (Kd.int .i64) (Kd.pair (Kd.slice 4 Kd.bool) (Kd.slice 40 CY))))))))) (fun x:S25=>(x.f0,x.f1,x.f2,x.f3,x.f4,x.f5,x.f6,x.f7,x.f8))
theorem afd {w:World} {x:S25} {cs:List Value} (h:k25.K w x cs):∃ A7 c7 A8 c8,cs = [.int .i64 x.f0,.int .i64 x.f1,.int .i64 x.f2,.int .i64 x.f3,.int .i64 x.f4,.int .i64 x.f5,.int .i64 x.f6,.slice A7 x.f7.length c7,.slice A8 x.f8.length c8]∧x.f7.length≤c7∧Kd.bool.C w A7 x.f7.length x.f7∧x.f8.length≤c8∧CY.C w A8 x.f8.length x.f8:=by
 obtain ⟨_,_,rfl,rfl,⟨_,_,rfl,rfl,⟨_,_,rfl,rfl,⟨_,_,rfl,rfl,⟨_,_,rfl,rfl,⟨_,_,rfl,rfl,⟨_,_,rfl,rfl,⟨_,_,rfl,⟨A7,c7,rfl,l7,g7⟩,⟨A8,c8,rfl,l8,g8⟩⟩⟩⟩⟩⟩⟩⟩⟩:=h
 exact ⟨A7,c7,A8,c8,rfl,l7,g7,l8,g8⟩
structure vY where
 f0:Int
 f1:Int
def z33:vY:=⟨(0:Int),(0:Int)⟩
def Yv:Kd vY:=Kd.iso (Kd.pair (Kd.int .i64) (Kd.int .i64)) (fun x:vY=>(x.f0,x.f1))
theorem afe {w:World} {x:vY} {cs:List Value} (h:Yv.K w x cs):cs = [.int .i64 x.f0,.int .i64 x.f1]:=by
 obtain ⟨_,_,rfl,rfl,rfl⟩:=h
 exact rfl
theorem amE (w:World) (x:vY):Yv.K w x [.int .i64 x.f0,.int .i64 x.f1]:=⟨[.int .i64 x.f0],[.int .i64 x.f1],rfl,rfl,rfl⟩
def dx (xs:List vY) (i:Int):vY:=xs.getD i.toNat z33
theorem kT {w:World} {A:Option Addr} {n:Nat} {xs:List vY} (h:Kd.C Yv w A n xs) (i:Int) (h0:0≤i) (h1:i < n):∃ ad,A = some ad∧w.cell? (ad.add (i.toNat*2)) = some (.int .i64 (dx xs i).f0)∧w.cell? ⟨(ad.add (i.toNat*2)).block,(ad.add (i.toNat*2)).off+1,none⟩ = some (.int .i64 (dx xs i).f1):=by
 obtain ⟨ad,c,e,_,hK,hc0⟩:=Kd.Yd h z33 i h0 h1
 have hc:∀ j u,c[j]? = some u→w.cell? (ad.add (i.toNat*2+j)) = some u:=hc0
 obtain rfl:=afe hK
 exact ⟨ad,e,hc 0 _ rfl,zq0⟩
structure S29 where
 f0:Int
 f1:Int
 f2:nD
 f3:nD
 f4:Int
def k29:Kd S29:=Kd.iso (Kd.pair (Kd.int .i64) (Kd.pair (Kd.int .i64) (Kd.pair k27 (Kd.pair k27 (Kd.int .i64))))) (fun x:S29=>(x.f0,x.f1,x.f2,x.f3,x.f4))
theorem aff {w:World} {x:S29} {cs:List Value} (h:k29.K w x cs):cs = [.int .i64 x.f0,.int .i64 x.f1,.int .i64 x.f2.f0,.int .i64 x.f2.f1,.int .i64 x.f3.f0,.int .i64 x.f3.f1,.int .i64 x.f4]:=by
 obtain ⟨_,_,rfl,rfl,⟨_,_,rfl,rfl,⟨_,_,rfl,s2,⟨_,_,rfl,s4,rfl⟩⟩⟩⟩:=h
 obtain rfl:=xU s2
 obtain rfl:=xU s4
 exact rfl
structure gz where
 f0:nD
 f1:nD
def z31:gz:=⟨z27,z27⟩
def PN:Kd gz:=Kd.iso (Kd.pair k27 k27) (fun x:gz=>(x.f0,x.f1))
theorem VW {w:World} {x:gz} {cs:List Value} (h:PN.K w x cs):cs = [.int .i64 x.f0.f0,.int .i64 x.f0.f1,.int .i64 x.f1.f0,.int .i64 x.f1.f1]:=by
 obtain ⟨_,_,rfl,s0,s2⟩:=h
 obtain rfl:=xU s0
 obtain rfl:=xU s2
 exact rfl
theorem aap (w:World) (base:Nat) (ok:Nat→Prop) (x:gz):PN.M w base ok x [.int .i64 x.f0.f0,.int .i64 x.f0.f1,.int .i64 x.f1.f0,.int .i64 x.f1.f1]:=⟨[.int .i64 x.f0.f0,.int .i64 x.f0.f1],[.int .i64 x.f1.f0,.int .i64 x.f1.f1],rfl,(CR w base ok x.f0),(CR w base ok x.f1)⟩
def oU (xs:List gz) (i:Int):gz:=xs.getD i.toNat z31
theorem anM {w:World} {A:Option Addr} {n:Nat} {xs:List gz} (h:Kd.C PN w A n xs) (i:Int) (h0:0≤i) (h1:i < n):∃ ad,A = some ad∧w.cell? (ad.add (i.toNat*4)) = some (.int .i64 (oU xs i).f0.f0)∧w.cell? ⟨(ad.add (i.toNat*4)).block,(ad.add (i.toNat*4)).off+1,none⟩ = some (.int .i64 (oU xs i).f0.f1)∧w.cell? ⟨(ad.add (i.toNat*4)).block,(ad.add (i.toNat*4)).off+2,none⟩ = some (.int .i64 (oU xs i).f1.f0)∧w.cell? ⟨(ad.add (i.toNat*4)).block,(ad.add (i.toNat*4)).off+3,none⟩ = some (.int .i64 (oU xs i).f1.f1):=by
 obtain ⟨ad,c,e,_,hK,hc0⟩:=Kd.Yd h z31 i h0 h1
 have hc:∀ j u,c[j]? = some u→w.cell? (ad.add (i.toNat*4+j)) = some u:=hc0
 obtain rfl:=VW hK
 exact ⟨ad,e,hc 0 _ rfl,zq0,by rw [← zY _ _ 2 (by omega)];exact hc 2 _ rfl,by rw [← zY _ _ 3 (by omega)];exact hc 3 _ rfl⟩
end Go.Proofs.Ytmhaiihjfgfaoaa.Pr
end
section
namespace Go.Proofs.Ytmhaiihjfgfaoaa.Pr
open Go.RowKit Go.Proofs.YtmhaiihjfgfaoaaW.PrintWords Go.Proofs.YtmhaiihjfgfaoaaW.PrintLast Go.Proofs.YtmhaiihjfgfaoaaW.PrintMore
attribute [local go_sem] cz cB dK dL cK
set_option linter.unusedVariables false
set_option linter.unusedSimpArgs false
def gF.f (aj:Int) (ak:Int) (ax:Int) (ay:Int) (aJ:Int) (aC:Int) (aG:Int) (aN:List Bool) (av:List (nU)):Option (Bool):=if (aN.length:Int) > 200 then (some true) else (some (decide ((av.length:Int) > 3000)))
set_option maxHeartbeats 8000000 in
set_option maxRecDepth 100000 in
theorem gF.calls (aj:Int) (ak:Int) (ax:Int) (ay:Int) (aJ:Int) (aC:Int) (aG:Int) (dH:Option Addr) (dD:Nat) (aN:List Bool) (dG:Option Addr) (dE:Nat) (av:List (nU)) (r:Bool) (w:World) (iW:Kd.C Kd.bool w dH aN.length aN) (iX:aN.length≤dD) (iY:Kd.C CY w dG av.length av) (iZ:av.length≤dE) (h:gF.f aj ak ax ay aJ aC aG aN av = some r):
 Calls Try.prog 22 #[.agg #[.int .i64 aj,.int .i64 ak,.int .i64 ax,.int .i64 ay,.int .i64 aJ,.int .i64 aC,.int .i64 aG,.slice dH aN.length dD,.slice dG av.length dE]] w fun e w'=>e = .returned (.bool r)∧Below w.heap.size w w':=by
 have xE:=Try.underlying25
 have gq:=ae.mk iW
 have gG:=ae.mk iX
 clear iW iX
 have fF:=ae.mk iY
 have gH:=ae.mk iZ
 clear iY iZ
 have HB:=ae.mk (Below.refl w.heap.size w)
 have H:(if (aN.length:Int) > 200 then (some true) else (some (decide ((av.length:Int) > 3000)))) = some r:=h
 clear h
 by_cases c2:(aN.length:Int) > 200
 ·rw [if_pos c2] at H
  have U9:decide (200 < (aN.length:Int)) = true:=decide_eq_true c2
  have aEe:decide (200 < aN.length) = true:=decide_eq_true (by omega)
  clear c2
  obtain rfl:=Option.some.inj H
  go_enter Try.func22,Try.ntmps22
  go_wp2_with (first|((with_reducible refine aA (N:=1) rfl ?_);(try (refine pF (by rfl) ?_;dsimp only));refine az (by rfl) (N:=1) (by rfl) (cs:=#[.int .i64 aj,.int .i64 ak,.int .i64 ax,.int .i64 ay,.int .i64 aJ,.int .i64 aC,.int .i64 aG,.slice dH aN.length dD,.slice dG av.length dE]) (t:=25) gQ ?_;intro auc hg w3 hbox hb;have afg:=ae.mk (hbox);have aud:=dn HB hg;have aue:=dn HB hg;replace HB:=dF HB hb;clear hb hbox hg;obtain ⟨TH,TI,afh,afi,anX,anY,anZ,aEf,aEg,TJ,TK,afj,afk,an0,an1,an2,aEh,aEi⟩:=iI afg.out))
  go_ret
  exact ⟨lJ,gM⟩
 ·rw [if_neg c2] at H
  have U9:decide (200 < (aN.length:Int)) = false:=decide_eq_false c2
  have aEe:decide (200 < aN.length) = false:=decide_eq_false (by omega)
  clear c2
  obtain rfl:=Option.some.inj H
  go_enter Try.func22,Try.ntmps22
  go_wp2_with (first|((with_reducible refine aA (N:=1) rfl ?_);(try (refine pF (by rfl) ?_;dsimp only));refine az (by rfl) (N:=1) (by rfl) (cs:=#[.int .i64 aj,.int .i64 ak,.int .i64 ax,.int .i64 ay,.int .i64 aJ,.int .i64 aC,.int .i64 aG,.slice dH aN.length dD,.slice dG av.length dE]) (t:=25) gQ ?_;intro auc hg w5 hbox hb;have afg:=ae.mk (hbox);have aud:=dn HB hg;have aue:=dn HB hg;replace HB:=dF HB hb;clear hb hbox hg;obtain ⟨amS,amT,amU,amV,amW,amX,amY,amZ,am0,am1,am2,am3,am4,am5,am6,am7,am8,am9⟩:=iI afg.out))
  go_ret
  exact ⟨lJ,gM⟩
end Go.Proofs.Ytmhaiihjfgfaoaa.Pr
end
section
namespace Go.Proofs.Ytmhaiihjfgfaoaa.Pr
open Go.RowKit Go.Proofs.YtmhaiihjfgfaoaaW.PrintWords Go.Proofs.YtmhaiihjfgfaoaaW.PrintLast Go.Proofs.YtmhaiihjfgfaoaaW.PrintMore
attribute [local go_sem] cz cB dK dL cK
set_option linter.unusedVariables false
set_option linter.unusedSimpArgs false
def aK.f (a0:Int) (a1:Int) (a2:Int):Option (Bool):=if a0 ≥ a1 then (some (decide (a0≤a2))) else (some false)
set_option maxHeartbeats 8000000 in
set_option maxRecDepth 100000 in
theorem aK.calls (a0:Int) (a1:Int) (a2:Int) (r:Bool) (w:World) (h:aK.f a0 a1 a2 = some r):
 Calls Try.prog 112 #[.int .i64 a0,.int .i64 a1,.int .i64 a2] w fun e w'=>e = .returned (.bool r)∧qi w w':=by
 have H:(if a0 ≥ a1 then (some (decide (a0≤a2))) else (some false)) = some r:=h
 clear h
 by_cases c4:a0 ≥ a1
 ·rw [if_pos c4] at H
  have rW:decide (a1≤a0) = true:=decide_eq_true c4
  clear c4
  obtain rfl:=Option.some.inj H
  go_enter Try.func112,Try.ntmps112
  go_wp2
  go_ret
  exact ⟨nI,R4⟩
 ·rw [if_neg c4] at H
  have rW:decide (a1≤a0) = false:=decide_eq_false c4
  clear c4
  obtain rfl:=Option.some.inj H
  go_enter Try.func112,Try.ntmps112
  go_wp2
  go_ret
  exact ⟨nI,R4⟩
end Go.Proofs.Ytmhaiihjfgfaoaa.Pr
end
section
namespace Go.Proofs.Ytmhaiihjfgfaoaa.Pr
open Go.RowKit Go.Proofs.YtmhaiihjfgfaoaaW.PrintWords Go.Proofs.YtmhaiihjfgfaoaaW.PrintLast Go.Proofs.YtmhaiihjfgfaoaaW.PrintMore
attribute [local go_sem] cz cB dK dL cK
set_option linter.unusedVariables false
set_option linter.unusedSimpArgs false
def bZ.f (aj:Int) (ak:Int):Option (Bool):=if aj≤ak then ((aK.f aj (-1073741824) 1073741824).bind fun t103=>(if t103 = true then ((aK.f ak (-1073741824) 1073741824).bind fun t104=>(some t104)) else (some false))) else (some false)
set_option maxHeartbeats 8000000 in
set_option maxRecDepth 100000 in
theorem bZ.calls (aj:Int) (ak:Int) (r:Bool) (w:World) (h:bZ.f aj ak = some r):
 Calls Try.prog 111 #[.agg #[.int .i64 aj,.int .i64 ak]] w fun e w'=>e = .returned (.bool r)∧Below w.heap.size w w':=by
 have pK:=Try.underlying27
 have HB:=ae.mk (Below.refl w.heap.size w)
 have H:(if aj≤ak then ((aK.f aj (-1073741824) 1073741824).bind fun t103=>(if t103 = true then ((aK.f ak (-1073741824) 1073741824).bind fun t104=>(some t104)) else (some false))) else (some false)) = some r:=h
 clear h
 by_cases c2:aj≤ak
 ·rw [if_pos c2] at H
  have U9:decide (aj≤ak) = true:=decide_eq_true c2
  clear c2
  replace H:=Option.bind_eq_some_iff.mp H
  obtain ⟨t103,QA,H⟩:=H
  replace H:(if t103 = true then ((aK.f ak (-1073741824) 1073741824).bind fun t104=>(some t104)) else (some false)) = some r:=H
  have A3:=ae.mk QA
  clear QA
  by_cases c4:t103 = true
  ·subst c4
   have H1:((aK.f ak (-1073741824) 1073741824).bind fun t104=>(some t104)) = some r:=by rw [if_pos rfl] at H;exact H
   clear H
   have H:=H1
   clear H1
   replace H:=Option.bind_eq_some_iff.mp H
   obtain ⟨t104,OX,H⟩:=H
   replace H:(some t104) = some r:=H
   have A5:=ae.mk OX
   clear OX
   obtain rfl:=Option.some.inj H
   go_enter Try.func111,Try.ntmps111
   go_wp2_with (first|((with_reducible refine aA (N:=1) rfl ?_);refine az (by rfl) (N:=1) (by rfl) (cs:=#[.int .i64 aj,.int .i64 ak]) (t:=27) gQ ?_;intro alN hg w6 hbox hb;have VX:=ae.mk (hbox);have alO:=dn HB hg;have alP:=dn HB hg;replace HB:=dF HB hb;clear hb hbox hg;obtain ⟨xI,xJ,xK,xL⟩:=nE VX.out)|(go_at_call 112;(with_reducible refine (aK.calls aj (-1073741824) 1073741824 true _ A3.out).mono ?_);rintro e w' ⟨rfl,⟨nd,rfl⟩⟩)|(go_at_call 112;(with_reducible refine (aK.calls ak (-1073741824) 1073741824 t104 _ A5.out).mono ?_);rintro e w' ⟨rfl,⟨nd,rfl⟩⟩))
   go_ret
   exact ⟨lJ,gM⟩
  ·replace c4:=Bool.eq_false_iff.mpr c4
   subst c4
   have H1:(some false) = some r:=by rw [if_neg (show ¬ (false = true) by decide)] at H;exact H
   clear H
   have H:=H1
   clear H1
   obtain rfl:=Option.some.inj H
   go_enter Try.func111,Try.ntmps111
   go_wp2_with (first|((with_reducible refine aA (N:=1) rfl ?_);refine az (by rfl) (N:=1) (by rfl) (cs:=#[.int .i64 aj,.int .i64 ak]) (t:=27) gQ ?_;intro alN hg w8 hbox hb;have VX:=ae.mk (hbox);have alO:=dn HB hg;have alP:=dn HB hg;replace HB:=dF HB hb;clear hb hbox hg;obtain ⟨Dr,Dt,Du,Dv⟩:=nE VX.out)|(go_at_call 112;(with_reducible refine (aK.calls aj (-1073741824) 1073741824 false _ A3.out).mono ?_);rintro e w' ⟨rfl,⟨nd,rfl⟩⟩))
   go_ret
   exact ⟨lJ,gM⟩
 ·rw [if_neg c2] at H
  have U9:decide (aj≤ak) = false:=decide_eq_false c2
  clear c2
  obtain rfl:=Option.some.inj H
  go_enter Try.func111,Try.ntmps111
  go_wp2_with (first|((with_reducible refine aA (N:=1) rfl ?_);refine az (by rfl) (N:=1) (by rfl) (cs:=#[.int .i64 aj,.int .i64 ak]) (t:=27) gQ ?_;intro alN hg w10 hbox hb;have VX:=ae.mk (hbox);have alO:=dn HB hg;have alP:=dn HB hg;replace HB:=dF HB hb;clear hb hbox hg;obtain ⟨yn,yo,yt,yu⟩:=nE VX.out))
  go_ret
  exact ⟨lJ,gM⟩
end Go.Proofs.Ytmhaiihjfgfaoaa.Pr
end
section
namespace Go.Proofs.Ytmhaiihjfgfaoaa.Pr
open Go.RowKit Go.Proofs.YtmhaiihjfgfaoaaW.PrintWords Go.Proofs.YtmhaiihjfgfaoaaW.PrintLast Go.Proofs.YtmhaiihjfgfaoaaW.PrintMore
attribute [local go_sem] cz cB dK dL cK
set_option linter.unusedVariables false
set_option linter.unusedSimpArgs false
def bI.f (aj:Int) (ak:Int) (a1:Int) (a2:Int):Option (Bool):=(bZ.f aj ak).bind fun t106=>(if t106 = true then (if aj ≥ a1 then (some (decide (ak≤a2))) else (some false)) else (some false))
set_option maxHeartbeats 8000000 in
set_option maxRecDepth 100000 in
theorem bI.calls (aj:Int) (ak:Int) (a1:Int) (a2:Int) (r:Bool) (w:World) (h:bI.f aj ak a1 a2 = some r):
 Calls Try.prog 78 #[.agg #[.int .i64 aj,.int .i64 ak],.int .i64 a1,.int .i64 a2] w fun e w'=>e = .returned (.bool r)∧Below w.heap.size w w':=by
 have pK:=Try.underlying27
 have HB:=ae.mk (Below.refl w.heap.size w)
 have H:((bZ.f aj ak).bind fun t106=>(if t106 = true then (if aj ≥ a1 then (some (decide (ak≤a2))) else (some false)) else (some false))) = some r:=h
 clear h
 replace H:=Option.bind_eq_some_iff.mp H
 obtain ⟨t106,LX,H⟩:=H
 replace H:(if t106 = true then (if aj ≥ a1 then (some (decide (ak≤a2))) else (some false)) else (some false)) = some r:=H
 have A4:=ae.mk LX
 clear LX
 by_cases c5:t106 = true
 ·subst c5
  have H1:(if aj ≥ a1 then (some (decide (ak≤a2))) else (some false)) = some r:=by rw [if_pos rfl] at H;exact H
  clear H
  have H:=H1
  clear H1
  by_cases c6:aj ≥ a1
  ·rw [if_pos c6] at H
   have Dp:decide (a1≤aj) = true:=decide_eq_true c6
   clear c6
   obtain rfl:=Option.some.inj H
   go_enter Try.func78,Try.ntmps78
   go_wp2_with (first|((with_reducible refine aA (N:=3) rfl ?_);refine az (by rfl) (N:=3) (by rfl) (cs:=#[.int .i64 aj,.int .i64 ak]) (t:=27) gQ ?_;intro alQ hg w7 hbox hb;have Be:=ae.mk (hbox);have alR:=dn HB hg;have alS:=dn HB hg;replace HB:=dF HB hb;clear hb hbox hg;obtain ⟨GQ,GR,GU,GV⟩:=nE Be.out)|((with_reducible refine aW (f:=111) rfl ?_);refine dM (some 8) rfl rfl Try.func111 aR rfl #[.agg #[.int .i64 aj,.int .i64 ak]] rfl jJ ?_;(with_reducible refine (bZ.calls aj ak true _ A4.out).mono ?_);rintro e w9 ⟨rfl,hb⟩;refine ⟨_,rfl,?_⟩;replace Be:=bC Be hb;replace HB:=dF HB hb;(try clear hb);(try clear hb2);(try clear hk);(try clear hi);obtain ⟨wL,wM,wN,wO⟩:=nE Be.out))
   go_ret
   exact ⟨lJ,gM⟩
  ·rw [if_neg c6] at H
   have Dp:decide (a1≤aj) = false:=decide_eq_false c6
   clear c6
   obtain rfl:=Option.some.inj H
   go_enter Try.func78,Try.ntmps78
   go_wp2_with (first|((with_reducible refine aA (N:=3) rfl ?_);refine az (by rfl) (N:=3) (by rfl) (cs:=#[.int .i64 aj,.int .i64 ak]) (t:=27) gQ ?_;intro alQ hg w11 hbox hb;have Be:=ae.mk (hbox);have alR:=dn HB hg;have alS:=dn HB hg;replace HB:=dF HB hb;clear hb hbox hg;obtain ⟨uS,uT,uU,uV⟩:=nE Be.out)|((with_reducible refine aW (f:=111) rfl ?_);refine dM (some 8) rfl rfl Try.func111 aR rfl #[.agg #[.int .i64 aj,.int .i64 ak]] rfl jJ ?_;(with_reducible refine (bZ.calls aj ak true _ A4.out).mono ?_);rintro e w13 ⟨rfl,hb⟩;refine ⟨_,rfl,?_⟩;replace Be:=bC Be hb;replace HB:=dF HB hb;(try clear hb);(try clear hb2);(try clear hk);(try clear hi);obtain ⟨wm,wo,wu,wy⟩:=nE Be.out))
   go_ret
   exact ⟨lJ,gM⟩
 ·replace c5:=Bool.eq_false_iff.mpr c5
  subst c5
  have H1:(some false) = some r:=by rw [if_neg (show ¬ (false = true) by decide)] at H;exact H
  clear H
  have H:=H1
  clear H1
  obtain rfl:=Option.some.inj H
  go_enter Try.func78,Try.ntmps78
  go_wp2_with (first|((with_reducible refine aA (N:=3) rfl ?_);refine az (by rfl) (N:=3) (by rfl) (cs:=#[.int .i64 aj,.int .i64 ak]) (t:=27) gQ ?_;intro alQ hg WW hbox hb;have Be:=ae.mk (hbox);have alR:=dn HB hg;have alS:=dn HB hg;replace HB:=dF HB hb;clear hb hbox hg;obtain ⟨TU,TV,TW,TY⟩:=nE Be.out)|((with_reducible refine aW (f:=111) rfl ?_);refine dM (some 8) rfl rfl Try.func111 aR rfl #[.agg #[.int .i64 aj,.int .i64 ak]] rfl jJ ?_;(with_reducible refine (bZ.calls aj ak false _ A4.out).mono ?_);rintro e Ac ⟨rfl,hb⟩;refine ⟨_,rfl,?_⟩;replace Be:=bC Be hb;replace HB:=dF HB hb;(try clear hb);(try clear hb2);(try clear hk);(try clear hi)))
  go_ret
  exact ⟨lJ,gM⟩
end Go.Proofs.Ytmhaiihjfgfaoaa.Pr
end
