import Derived.Test.YtmhaiihjfgfaoaaGzGliderReaches3
import Derived.Test.YtmhaiihjfgfaoaaGzGliderReaches20
import Derived.Test.YtmhaiihjfgfaoaaGzGliderReaches22
open Go.Value renaming int → U
open Go.IntKind renaming i64 → Z
open Bool renaming true → ab, false → ac
section
namespace Go.Proofs.Ytmhaiihjfgfaoaa.Pr
open Go.RowKit Go.Proofs.YtmhaiihjfgfaoaaW.PrintWords Go.Proofs.YtmhaiihjfgfaoaaW.PrintLast Go.Proofs.YtmhaiihjfgfaoaaW.PrintMore
attribute [local go_sem] eD eF fD fE eG
set_option linter.unusedVariables false
set_option linter.unusedSimpArgs false
mutual
def bZ.j0:Nat→Bool→Int→Int→Int→Int→Option (Int × Int)
 |0,_,_,_,_,_=>none
 |k+1,xe,MN,MO,MP,MQ=>if xe = true then (some (0,2)) else (if MN ≥ MP then (bZ.j1 k (decide (MO≤MQ)) MN MO MP MQ) else (bZ.j1 k false MN MO MP MQ))
def bZ.j1:Nat→Bool→Int→Int→Int→Int→Option (Int × Int)
 |0,_,_,_,_,_=>none
 |k+1,x25,MN,MO,MP,MQ=>if x25 = true then (some (2,0)) else (if MO < MP then (some (0,0)) else (if MN > MQ then (some (0,0)) else (some (1,0))))
end
def bZ.f (k:Nat) (ah:Int) (ai:Int) (aQ:Int) (aM:Int):Option (Int × Int):=(bL.f ah ai).bind fun af9=>(if af9 = true then ((bL.f aQ aM).bind fun RL=>(bZ.j0 k (!RL) ah ai aQ aM)) else (bZ.j0 k true ah ai aQ aM))
set_option maxHeartbeats 8000000 in
set_option maxRecDepth 100000 in
theorem bZ.calls (k:Nat) (ah:Int) (ai:Int) (aQ:Int) (aM:Int) (r1:Int) (r2:Int) (w:World) (h:bZ.f k ah ai aQ aM = some (r1,r2)):
 Calls Try.prog 91 #[.agg #[U Z ah,U Z ai],.agg #[U Z aQ,U Z aM]] w fun e w'=>e = .returned (.tuple #[U Z r1,U Z r2])∧Below w.heap.size w w':=by
 have oo:=Try.underlying27
 have HB:=aa.mk (Below.refl w.heap.size w)
 have H:((bL.f ah ai).bind fun af9=>(if af9 = true then ((bL.f aQ aM).bind fun RL=>(bZ.j0 k (!RL) ah ai aQ aM)) else (bZ.j0 k true ah ai aQ aM))) = some (r1,r2):=h
 clear h
 have HC3:=aa.mk H
 clear H
 go_enter Try.func91,Try.ntmps91
 go_upto_region 1 with (first|((with_reducible refine aG (N:=2) rfl ?_);refine az (by rfl) (N:=2) (by rfl) (cs:=#[U Z ah,U Z ai]) (t:=27) fM ?_;intro at0 hg w4 hbox hb;have vV:=aa.mk (hbox);have aR7:=dn HB hg;have aR8:=dn HB hg;replace HB:=dw HB hb;clear hb hbox hg)|((with_reducible refine aG (N:=3) rfl ?_);refine az (by rfl) (N:=3) (by rfl) (cs:=#[U Z aQ,U Z aM]) (t:=27) fM ?_;intro at1 hg w5 hbox hb;have Dl:=aa.mk (hbox);have aR9:=dn HB hg;have aSa:=dn HB hg;have xL:=iq vV hg;have xM:=iw vV hg;replace vV:=bC vV hb;replace HB:=dw HB hb;clear hb hbox hg))
 (try simp only [Act.put,List.setIfInBounds_toArray,List.set_cons_zero,List.set_cons_succ])
 go_cut [13] (fun v13 wc=>∃ (kq:Nat) (sF:Bool),v13 = .bool sF∧aa (bZ.j0 kq sF ah ai aQ aM = some (r1,r2))∧aa (kq≤k)∧aa (wc.heap[at0]? = some (.cells #[U Z ah,U Z ai] 27 (0,0)))∧aa (wc.heap[at1]? = some (.cells #[U Z aQ,U Z aM] 27 (0,0)))∧aa (Below w.heap.size w wc))
 case first =>
  have H:=HC3.out
  clear HC3
  replace H:=Option.bind_eq_some_iff.mp H
  obtain ⟨af9,La,H⟩:=H
  replace H:(if af9 = true then ((bL.f aQ aM).bind fun RL=>(bZ.j0 k (!RL) ah ai aQ aM)) else (bZ.j0 k true ah ai aQ aM)) = some (r1,r2):=H
  have A6:=aa.mk La
  clear La
  by_cases c7:af9 = true
  ·subst c7
   have H1:((bL.f aQ aM).bind fun RL=>(bZ.j0 k (!RL) ah ai aQ aM)) = some (r1,r2):=by rw [if_pos rfl] at H;exact H
   clear H
   have H:=H1
   clear H1
   replace H:=Option.bind_eq_some_iff.mp H
   obtain ⟨RL,TN,H⟩:=H
   replace H:(bZ.j0 k (!RL) ah ai aQ aM) = some (r1,r2):=H
   have A8:=aa.mk TN
   clear TN
   have H':=aa.mk H
   clear H
   have ak3:=xL.out
   have ak4:=xM.out
   obtain ⟨rG,rH,rJ,rM⟩:=jq vV.out
   go_wp2_with (first|((with_reducible refine aN (f:=111) rfl ?_);refine bT (some 7) rfl rfl Try.func111 aY rfl #[.agg #[U Z ah,U Z ai]] rfl iG ?_;(with_reducible refine (bL.calls ah ai true _ A6.out).mono ?_);rintro e w11 ⟨rfl,hb⟩;refine ⟨_,rfl,?_⟩;replace vV:=bC vV hb;replace Dl:=bC Dl hb;replace HB:=dw HB hb;(try clear hb);(try clear hb2);(try clear hk);(try clear hi);obtain ⟨qx,qy,qz,qA⟩:=jq Dl.out)|(go_at_call 111;(with_reducible refine (bL.calls aQ aM RL _ A8.out).mono ?_);rintro e TA ⟨rfl,hb⟩;replace vV:=bC vV hb;replace Dl:=bC Dl hb;replace HB:=dw HB hb;(try clear hb);(try clear hb2);(try clear hk);(try clear hi)))
   go_meet
   case rel=>exact ⟨_,(!RL),mg,H',⟨wE⟩,⟨fB⟩,⟨fB⟩,⟨fu⟩⟩
  ·replace c7:=Bool.eq_false_iff.mpr c7
   subst c7
   have H1:(bZ.j0 k true ah ai aQ aM) = some (r1,r2):=by rw [if_neg (show ¬ (false = true) by decide)] at H;exact H
   clear H
   have H:=H1
   clear H1
   have H':=aa.mk H
   clear H
   have XZ:=xL.out
   have X0:=xM.out
   obtain ⟨nI,nJ,nK,nL⟩:=jq vV.out
   go_wp2_with (first|((with_reducible refine aN (f:=111) rfl ?_);refine bT (some 7) rfl rfl Try.func111 aY rfl #[.agg #[U Z ah,U Z ai]] rfl iG ?_;(with_reducible refine (bL.calls ah ai false _ A6.out).mono ?_);rintro e w16 ⟨rfl,hb⟩;refine ⟨_,rfl,?_⟩;replace vV:=bC vV hb;replace Dl:=bC Dl hb;replace HB:=dw HB hb;(try clear hb);(try clear hb2);(try clear hk);(try clear hi)))
   go_meet
   case rel=>exact ⟨_,(true),mg,H',⟨wE⟩,⟨fB⟩,⟨fB⟩,⟨fu⟩⟩
 case rest =>
  clear HC3
  try clear c1
  try clear p2
  try clear c7
  try clear c9
  try clear c11
  try clear c14
  try clear rG rH
  try clear qx qy
  try clear nI nJ
  try clear rJ rM
  try clear qz qA
  try clear nK nL
  obtain ⟨kq,sF,rfl,HA,HJ2,vV,Dl,HB⟩:=hcut
  cases kq with
  |zero=>exact absurd HA.out (by simp [bZ.j0])
  |succ kj2 =>
   have H:=HA.out
   clear HA
   simp only [bZ.j0] at H
   by_cases c17:sF = true
   ·subst c17
    have H1:(some (0,2)) = some (r1,r2):=by rw [if_pos rfl] at H;exact H
    clear H
    have H:=H1
    clear H1
    simp only [Option.some.injEq,Prod.mk.injEq] at H
    obtain ⟨rfl,rfl⟩:=H
    go_wp2
    go_ret2
    exact ⟨kL,fu⟩
   ·replace c17:=Bool.eq_false_iff.mpr c17
    subst c17
    have H1:(if ah ≥ aQ then (bZ.j1 kj2 (decide (ai≤aM)) ah ai aQ aM) else (bZ.j1 kj2 false ah ai aQ aM)) = some (r1,r2):=by rw [if_neg (show ¬ (false = true) by decide)] at H;exact H
    clear H
    have H:=H1
    clear H1
    have av2:=aa.mk H
    clear H
    go_upto_region 3 with (fail)
    go_cut [25] (fun v25 wc=>∃ (kq:Nat) (WA:Bool),v25 = .bool WA∧aa (bZ.j1 kq WA ah ai aQ aM = some (r1,r2))∧aa (kq≤kj2)∧aa (wc.heap[at0]? = some (.cells #[U Z ah,U Z ai] 27 (0,0)))∧aa (wc.heap[at1]? = some (.cells #[U Z aQ,U Z aM] 27 (0,0)))∧aa (Below w.heap.size w wc))
    case first =>
     have H:=av2.out
     clear av2
     by_cases c19:ah ≥ aQ
     ·rw [if_pos c19] at H
      have Uc:decide (aQ≤ah) = true:=decide_eq_true c19
      clear c19
      (first|rw [Uc]|(simp only [eB,eH];rw [Uc])|skip)
      have H':=aa.mk H
      clear H
      have atS:=xL.out
      have atT:=xM.out
      obtain ⟨pO,pQ,pR,pU⟩:=jq vV.out
      obtain ⟨QD,QE,QF,QG⟩:=jq Dl.out
      go_wp2
      go_meet
      case rel=>exact ⟨_,(decide (ai≤aM)),mg,H',⟨by have:=HJ2.out;first|omega|exact Nat.le_refl _⟩,⟨fB⟩,⟨fB⟩,⟨fu⟩⟩
     ·rw [if_neg c19] at H
      have Uc:decide (aQ≤ah) = false:=decide_eq_false c19
      clear c19
      (first|rw [Uc]|(simp only [eB,eH];rw [Uc])|skip)
      have H':=aa.mk H
      clear H
      have X5:=xL.out
      have X6:=xM.out
      obtain ⟨rq,ru,ry,rz⟩:=jq vV.out
      obtain ⟨yO,yP,yQ,yR⟩:=jq Dl.out
      go_wp2
      go_meet
      case rel=>exact ⟨_,(false),mg,H',⟨by have:=HJ2.out;first|omega|exact Nat.le_refl _⟩,⟨fB⟩,⟨fB⟩,⟨fu⟩⟩
    case rest =>
     clear av2
     try clear c1
     try clear c2
     try clear p2
     try clear c7
     try clear c9
     try clear c11
     try clear c14
     try clear c17
     try clear c19
     try clear Uc
     try clear c20
     try clear c23
     try clear rG rH
     try clear qx qy
     try clear nI nJ
     try clear pO pQ
     try clear QD QE
     try clear rq ru
     try clear yO yP
     try clear rJ rM
     try clear qz qA
     try clear nK nL
     try clear pR pU
     try clear QF QG
     try clear ry rz
     try clear yQ yR
     try clear p2
     obtain ⟨kq,WA,rfl,HA,aUK,vV,Dl,HB⟩:=hcut
     cases kq with
     |zero=>exact absurd HA.out (by simp [bZ.j1])
     |succ aUL =>
      have H:=HA.out
      clear HA
      simp only [bZ.j1] at H
      by_cases K3:WA = true
      ·subst K3
       have H1:(some (2,0)) = some (r1,r2):=by rw [if_pos rfl] at H;exact H
       clear H
       have H:=H1
       clear H1
       simp only [Option.some.injEq,Prod.mk.injEq] at H
       obtain ⟨rfl,rfl⟩:=H
       go_wp2
       go_ret2
       exact ⟨kL,fu⟩
      ·replace K3:=Bool.eq_false_iff.mpr K3
       subst K3
       have H1:(if ai < aQ then (some (0,0)) else (if ah > aM then (some (0,0)) else (some (1,0)))) = some (r1,r2):=by rw [if_neg (show ¬ (false = true) by decide)] at H;exact H
       clear H
       have H:=H1
       clear H1
       by_cases Zx:ai < aQ
       ·rw [if_pos Zx] at H
        have adI:decide (ai < aQ) = true:=decide_eq_true Zx
        clear Zx
        simp only [Option.some.injEq,Prod.mk.injEq] at H
        obtain ⟨rfl,rfl⟩:=H
        have ahS:=xL.out
        have ahT:=xM.out
        obtain ⟨qB,qC,qD,qE⟩:=jq vV.out
        obtain ⟨Gi,Gj,Gm,Gn⟩:=jq Dl.out
        go_wp2
        go_ret2
        exact ⟨kL,fu⟩
       ·rw [if_neg Zx] at H
        have adI:decide (ai < aQ) = false:=decide_eq_false Zx
        clear Zx
        by_cases c31:ah > aM
        ·rw [if_pos c31] at H
         have Kk:decide (aM < ah) = true:=decide_eq_true c31
         clear c31
         simp only [Option.some.injEq,Prod.mk.injEq] at H
         obtain ⟨rfl,rfl⟩:=H
         have aCb:=xL.out
         have aCc:=xM.out
         obtain ⟨QN,QO,QP,QQ⟩:=jq vV.out
         obtain ⟨I8,I9,Ja,Jb⟩:=jq Dl.out
         go_wp2
         go_ret2
         exact ⟨kL,fu⟩
        ·rw [if_neg c31] at H
         have Kk:decide (aM < ah) = false:=decide_eq_false c31
         clear c31
         simp only [Option.some.injEq,Prod.mk.injEq] at H
         obtain ⟨rfl,rfl⟩:=H
         have atU:=xL.out
         have atV:=xM.out
         obtain ⟨Wd,We,Wh,Wi⟩:=jq vV.out
         obtain ⟨QR,QS,QT,QU⟩:=jq Dl.out
         go_wp2
         go_ret2
         exact ⟨kL,fu⟩
def jl.f (k:Nat) (ah:Int) (ai:Int) (ax:Int) (ay:Int) (aQ:Int) (aM:Int) (bf:Int) (bg:Int):Option (Int):=(bZ.f k ah ai aQ aM).bind fun ai6=>((bZ.f k ax ay bf bg).bind fun YL=>(some (mn ai6.1 YL.1)))
set_option maxHeartbeats 8000000 in
set_option maxRecDepth 100000 in
theorem jl.calls (k:Nat) (ah:Int) (ai:Int) (ax:Int) (ay:Int) (aQ:Int) (aM:Int) (bf:Int) (bg:Int) (r:Int) (w:World) (h:jl.f k ah ai ax ay aQ aM bf bg = some r):
 Calls Try.prog 43 #[.agg #[U Z ah,U Z ai,U Z ax,U Z ay],.agg #[U Z aQ,U Z aM,U Z bf,U Z bg]] w fun e w'=>e = .returned (U Z r)∧Below w.heap.size w w':=by
 have oP:=Try.underlying31
 have oo:=Try.underlying27
 have HB:=aa.mk (Below.refl w.heap.size w)
 have H:((bZ.f k ah ai aQ aM).bind fun ai6=>((bZ.f k ax ay bf bg).bind fun YL=>(some (mn ai6.1 YL.1)))) = some r:=h
 clear h
 replace H:=Option.bind_eq_some_iff.mp H
 obtain ⟨⟨aga,aO5⟩,O5,H⟩:=H
 replace H:((bZ.f k ax ay bf bg).bind fun YL=>(some (mn aga YL.1))) = some r:=H
 have A3:=aa.mk O5
 clear O5
 replace H:=Option.bind_eq_some_iff.mp H
 obtain ⟨⟨ai7,aO6⟩,Kv,H⟩:=H
 replace H:(some (mn aga ai7)) = some r:=H
 have A4:=aa.mk Kv
 clear Kv
 obtain ⟨ji5,RN⟩:∃ j_:Int,(mn aga ai7) = j_:=⟨_,rfl⟩
 replace H:(some ji5) = some r:=by first|(rw [RN] at H;exact H)|(simp only [RN] at H ⊢;exact H)
 (try rw [RN] at A3)
 (try rw [RN] at A4)
 have aCd:(if ai7 < aga then ai7 else aga) = ji5:=RN
 obtain rfl:=Option.some.inj H
 go_enter Try.func43,Try.ntmps43
 go_wp2_with (first|((with_reducible refine aG (N:=2) rfl ?_);refine az (by rfl) (N:=2) (by rfl) (cs:=#[U Z ah,U Z ai,U Z ax,U Z ay]) (t:=31) fM ?_;intro aSb hg w6 hbox hb;have Kn:=aa.mk (hbox);have aSc:=dn HB hg;have aSd:=dn HB hg;replace HB:=dw HB hb;clear hb hbox hg)|((with_reducible refine aG (N:=3) rfl ?_);refine az (by rfl) (N:=3) (by rfl) (cs:=#[U Z aQ,U Z aM,U Z bf,U Z bg]) (t:=31) fM ?_;intro aSe hg w7 hbox hb;have Ud:=aa.mk (hbox);have aSf:=dn HB hg;have aSg:=dn HB hg;have agb:=iq Kn hg;have agc:=iw Kn hg;replace Kn:=bC Kn hb;replace HB:=dw HB hb;clear hb hbox hg;have afx:=agb.out;have afy:=agc.out;obtain ⟨Bw,Bz,Fp,Fq,BA,BC,Fs,Fu⟩:=gD Kn.out;obtain ⟨rG,rH,Lj,Ll,rJ,rM,Lm,Lp⟩:=gD Ud.out)|((with_reducible refine aN (f:=91) rfl ?_);refine bT (some 14) rfl rfl Try.func91 aY rfl #[.agg #[U Z ah,U Z ai],.agg #[U Z aQ,U Z aM]] rfl iG ?_;(with_reducible refine (bZ.calls k ah ai aQ aM aga aO5 _ A3.out).mono ?_);rintro e w11 ⟨rfl,hb⟩;refine ⟨_,rfl,?_⟩;replace Kn:=bC Kn hb;replace Ud:=bC Ud hb;replace HB:=dw HB hb;(try clear hb);(try clear hb2);(try clear hk);(try clear hi);obtain ⟨qx,qy,P9,Qa,qz,qA,Qb,Qc⟩:=gD Kn.out;obtain ⟨qY,qZ,xW,xX,q9,rf,xY,xZ⟩:=gD Ud.out)|((with_reducible refine aN (f:=91) rfl ?_);refine bT (some 22) rfl rfl Try.func91 aY rfl #[.agg #[U Z ax,U Z ay],.agg #[U Z bf,U Z bg]] rfl iG ?_;(with_reducible refine (bZ.calls k ax ay bf bg ai7 aO6 _ A4.out).mono ?_);rintro e w14 ⟨rfl,hb⟩;refine ⟨_,rfl,?_⟩;replace Kn:=bC Kn hb;replace Ud:=bC Ud hb;replace HB:=dw HB hb;(try clear hb);(try clear hb2);(try clear hk);(try clear hi)))
 go_ret
 exact ⟨by first|rfl|(simp [jD,jE] <;> rfl)|(simp only [← RN];first|rfl|(simp [jD,jE] <;> rfl))|(simp [*,jD,jE] <;> rfl),fu⟩
def cz.l0:Nat→List (dO)→Int→Option (Int)
 |0,_,_=>none
 |k+1,x0,x3=>if x3 < (x0.length:Int) then (if 0≤x3 then ((dF.f ((bq x0 x3).f0.f0) ((bq x0 x3).f0.f1) ((bq x0 x3).f1.f0) ((bq x0 x3).f1.f1)).bind fun aqz=>(if aqz = true then (cz.l0 k x0 (wrap64 (x3+1))) else (some 2))) else (none)) else (some 0)
def cz.f (k:Nat) (l0:List (dO)):Option (Int):=if (l0.length:Int) > 64 then (some 6) else (cz.l0 k l0 0)
set_option maxHeartbeats 8000000 in
set_option maxRecDepth 100000 in
theorem cz.calls (k:Nat) (A0:Option Addr) (c0:Nat) (l0:List (dO)) (r:Int) (w:World) (hr0:Kd.C Iy w A0 l0.length l0) (hc0:l0.length≤c0) (h:cz.f k l0 = some r):
 Calls Try.prog 90 #[.slice A0 l0.length c0] w fun e w'=>e = .returned (U Z r)∧Below w.heap.size w w':=by
 have oP:=Try.underlying31
 have XE:=aa.mk hr0
 have HC0:=aa.mk hc0
 clear hr0 hc0
 have HB:=aa.mk (Below.refl w.heap.size w)
 have H:(if (l0.length:Int) > 64 then (some 6) else (cz.l0 k l0 0)) = some r:=h
 clear h
 by_cases c2:(l0.length:Int) > 64
 ·rw [if_pos c2] at H
  have Rs:decide (64 < (l0.length:Int)) = true:=decide_eq_true c2
  have akU:decide (64 < l0.length) = true:=decide_eq_true (by omega)
  clear c2
  obtain rfl:=Option.some.inj H
  go_enter Try.func90,Try.ntmps90
  go_wp2
  go_ret
  exact ⟨kL,fu⟩
 ·rw [if_neg c2] at H
  have Rs:decide (64 < (l0.length:Int)) = false:=decide_eq_false c2
  have akU:decide (64 < l0.length) = false:=decide_eq_false (by omega)
  clear c2
  have H':=aa.mk H
  clear H
  go_enter Try.func90,Try.ntmps90
  go_wp2
  go_loopg [3] k (fun kq v3 w'=>∃ (oQ:Int),v3 = U Z oQ∧aa (cz.l0 kq l0 oQ = some r)∧aa (kq≤k)∧aa (Below w.heap.size w w'))
  case atStart=>exact ⟨(0),mg,H',⟨Nat.le_refl _⟩,⟨fu⟩⟩
  case round =>
   clear H'
   try clear c2
   try clear Rs
   try clear akU
   try clear p2
   obtain ⟨oQ,rfl,HA,G5,HB⟩:=hrel
   cases gk with
   |zero=>exact absurd HA.out (by simp [cz.l0])
   |succ k1 =>
    have H:=HA.out
    clear HA
    simp only [cz.l0] at H
    by_cases c3:oQ < (l0.length:Int)
    ·rw [if_pos c3] at H
     have D9:decide (oQ < (l0.length:Int)) = true:=decide_eq_true c3
     clear c3
     by_cases c4:0≤oQ
     ·rw [if_pos c4] at H
      have sK:decide (0≤oQ) = true:=decide_eq_true c4
      clear c4
      replace H:=Option.bind_eq_some_iff.mp H
      obtain ⟨aqz,O4,H⟩:=H
      replace H:(if aqz = true then (cz.l0 k1 l0 (wrap64 (oQ+1))) else (some 2)) = some r:=H
      have A5:=aa.mk O4
      clear O4
      by_cases c6:aqz = true
      ·subst c6
       have H1:(cz.l0 k1 l0 (wrap64 (oQ+1))) = some r:=by rw [if_pos rfl] at H;exact H
       clear H
       have H:=H1
       clear H1
       have H':=aa.mk H
       clear H
       have aaK:0≤(oQ:Int):=of_decide_eq_true qN
       have aaL:oQ < (l0.length:Int):=of_decide_eq_true qN
       obtain ⟨aCe,av3,Gt,Gu,Gv,Gw⟩:=uz XE.out oQ aaK aaL
       cases av3
       replace Gt:=(HB.out.cell (World.block_lt_of_cell? w _ Gt)).trans Gt
       replace Gu:=(HB.out.cell (World.block_lt_of_cell? w _ Gu)).trans Gu
       replace Gv:=(HB.out.cell (World.block_lt_of_cell? w _ Gv)).trans Gv
       replace Gw:=(HB.out.cell (World.block_lt_of_cell? w _ Gw)).trans Gw
       replace aaK:=eq_true aaK
       replace aaL:=eq_true aaL
       go_wp2_with (first|((with_reducible refine aN (f:=63) rfl ?_);refine bT (some 17) rfl rfl Try.func63 aY rfl #[.agg #[U Z ((bq l0 oQ).f0.f0),U Z ((bq l0 oQ).f0.f1),U Z ((bq l0 oQ).f1.f0),U Z ((bq l0 oQ).f1.f1)]] rfl iG ?_;(with_reducible refine (dF.calls ((bq l0 oQ).f0.f0) ((bq l0 oQ).f0.f1) ((bq l0 oQ).f1.f0) ((bq l0 oQ).f1.f1) true _ A5.out).mono ?_);rintro e w7 ⟨rfl,hb⟩;refine ⟨_,rfl,?_⟩;replace HB:=dw HB hb;(try clear hb);(try clear hb2);(try clear hk);(try clear hi)))
       go_roundg k1
       case measure=>have:=G5.out;omega
       case rel=>exact ⟨(wrap64 (oQ+1)),mg,H',⟨zq7⟩,⟨fu⟩⟩
      ·replace c6:=Bool.eq_false_iff.mpr c6
       subst c6
       have H1:(some 2) = some r:=by rw [if_neg (show ¬ (false = true) by decide)] at H;exact H
       clear H
       have H:=H1
       clear H1
       obtain rfl:=Option.some.inj H
       have aaK:0≤(oQ:Int):=of_decide_eq_true qN
       have aaL:oQ < (l0.length:Int):=of_decide_eq_true qN
       obtain ⟨aCe,av3,Gt,Gu,Gv,Gw⟩:=uz XE.out oQ aaK aaL
       cases av3
       replace Gt:=(HB.out.cell (World.block_lt_of_cell? w _ Gt)).trans Gt
       replace Gu:=(HB.out.cell (World.block_lt_of_cell? w _ Gu)).trans Gu
       replace Gv:=(HB.out.cell (World.block_lt_of_cell? w _ Gv)).trans Gv
       replace Gw:=(HB.out.cell (World.block_lt_of_cell? w _ Gw)).trans Gw
       replace aaK:=eq_true aaK
       replace aaL:=eq_true aaL
       go_wp2_with (first|((with_reducible refine aN (f:=63) rfl ?_);refine bT (some 17) rfl rfl Try.func63 aY rfl #[.agg #[U Z ((bq l0 oQ).f0.f0),U Z ((bq l0 oQ).f0.f1),U Z ((bq l0 oQ).f1.f0),U Z ((bq l0 oQ).f1.f1)]] rfl iG ?_;(with_reducible refine (dF.calls ((bq l0 oQ).f0.f0) ((bq l0 oQ).f0.f1) ((bq l0 oQ).f1.f0) ((bq l0 oQ).f1.f1) false _ A5.out).mono ?_);rintro e w8 ⟨rfl,hb⟩;refine ⟨_,rfl,?_⟩;replace HB:=dw HB hb;(try clear hb);(try clear hb2);(try clear hk);(try clear hi)))
       go_ret
       exact ⟨kL,fu⟩
     ·rw [if_neg c4] at H
      exact absurd H (by simp)
    ·rw [if_neg c3] at H
     have D9:decide (oQ < (l0.length:Int)) = false:=decide_eq_false c3
     clear c3
     obtain rfl:=Option.some.inj H
     go_wp2
     go_ret
     exact ⟨kL,fu⟩
end Go.Proofs.Ytmhaiihjfgfaoaa.Pr
end
