import Derived.RangeFuncCalls
import Derived.RangeFuncNested
import Derived.OrdersIn
import Derived.RangeFuncBound
import Derived.RangeFuncLeaves
import Derived.Shelf.Abstract
import Derived.Shelf.RegionOpen
import Derived.WalkKit
import Derived.OwnWalkIn
import Derived.TacticsInMore
import Derived.LoopNIn
import Derived.LoopIn
import Derived.Lib.Hide
import Derived.Deep.QuietTactic
import Derived.BigQuiet
import Derived.StillTailTactics
import Derived.Test.YtmhaiihjfgfaoaaGpGliderPlans1
set_option linter.unusedVariables false
set_option linter.unusedSimpArgs false
open Option.some renaming inj → bh
open Option renaming bind_some → aE
open List renaming setIfInBounds_toArray → ap, set_cons_zero → aq, set_cons_succ → ar
open Go.World renaming block_lt_of_cell? → bd
set_option maxRecDepth 100000
set_option maxHeartbeats 80000000
open Go.Value renaming int → Z
open Go.IntKind renaming i64 → ab
open Bool renaming true → ac, false → al
open Go.RowKit renaming wrap64 → an
open Go renaming World → ao
section
namespace Go.Proofs.Ytmhaiihjfgfaoaa.Pr
open Go.RowKit Go.Proofs.YtmhaiihjfgfaoaaW.bu Go.Proofs.YtmhaiihjfgfaoaaW.dB Go.Proofs.YtmhaiihjfgfaoaaW.ek
attribute [local go_sem] iq iw jq jr iy
def kL.f (k:Nat) (ai:Int) (aj:Int) (az:Int) (aA:Int) (aI:Int) (aD:Int) (aJ:Int) (aQ:Int) (aN:Int):Option (Int × Int):=(eD.f k ai aj az aA aI aD aJ).bind fun E5=>(if E5 = 0 then ((cK.f k aQ aN 0 1073741824).bind fun XA=>(if XA = true then (if aQ < aJ then (some (0,19)) else (if (mx aA aD) = 0 then (some (0,4)) else (some (an (Int.tdiv (an (aQ - aJ)) (mx aA aD)),0)))) else (some (0,2)))) else (some (0,E5)))
theorem kL.mono:∀ a0 a1 a2 a3 a4 a5 a6 a7 a8 k,oV (kL.f k a0 a1 a2 a3 a4 a5 a6 a7 a8) (kL.f (k+1) a0 a1 a2 a3 a4 a5 a6 a7 a8):=by
 intro a0 a1 a2 a3 a4 a5 a6 a7 a8 k
 unfold kL.f
 repeat' first
  |(with_reducible exact eD.mono _ _ _ _ _ _ _ _)
  |(with_reducible exact cK.mono _ _ _ _ _)
  |(with_reducible exact oV.refl _)
  |(with_reducible exact oV.none _)
  |(with_reducible refine oV.ite ?_ ?_)
  |(with_reducible refine oV.bind ?_ (fun _=>?_))
  |exact eD.mono _ _ _ _ _ _ _ _
  |exact cK.mono _ _ _ _ _
  |exact oV.none _
  |refine oV.ite ?_ ?_
  |refine oV.bind ?_ (fun _=>?_)
theorem kL.calls (k:Nat) (ai:Int) (aj:Int) (az:Int) (aA:Int) (aI:Int) (aD:Int) (aJ:Int) (aQ:Int) (aN:Int) (r1:Int) (r2:Int) (w:ao) (h:kL.f k ai aj az aA aI aD aJ aQ aN = some (r1,r2)):
 Calls Try.prog 37 #[.agg #[Z ab ai,Z ab aj,Z ab az,Z ab aA,Z ab aI,Z ab aD,Z ab aJ],.agg #[Z ab aQ,Z ab aN]] w fun e w'=>e = .returned (.tuple #[Z ab r1,Z ab r2])∧Below w.heap.size w w':=by
 have vo:=Try.underlying29
 have oO:=Try.underlying27
 have HB:=af.mk (Below.refl w.heap.size w)
 have H:((eD.f k ai aj az aA aI aD aJ).bind fun E5=>(if E5 = 0 then ((cK.f k aQ aN 0 1073741824).bind fun XA=>(if XA = true then (if aQ < aJ then (some (0,19)) else (if (mx aA aD) = 0 then (some (0,4)) else (some (an (Int.tdiv (an (aQ - aJ)) (mx aA aD)),0)))) else (some (0,2)))) else (some (0,E5)))) = some (r1,r2):=h
 clear h
 obtain ⟨Ck,Jl⟩:∃ j_:Int,(mx aA aD) = j_:=⟨_,rfl⟩
 replace H:((eD.f k ai aj az aA aI aD aJ).bind fun E5=>(if E5 = 0 then ((cK.f k aQ aN 0 1073741824).bind fun XA=>(if XA = true then (if aQ < aJ then (some (0,19)) else (if (Ck) = 0 then (some (0,4)) else (some (an (Int.tdiv (an (aQ - aJ)) (Ck)),0)))) else (some (0,2)))) else (some (0,E5)))) = some (r1,r2):=by first|(rw [Jl] at H;exact H)|(simp only [Jl] at H ⊢;exact H)
 have aow:(if aA < aD then aD else aA) = Ck:=Jl
 replace H:=Option.bind_eq_some_iff.mp H
 obtain ⟨E5,ME,H⟩:=H
 replace H:(if E5 = 0 then ((cK.f k aQ aN 0 1073741824).bind fun XA=>(if XA = true then (if aQ < aJ then (some (0,19)) else (if (Ck) = 0 then (some (0,4)) else (some (an (Int.tdiv (an (aQ - aJ)) (Ck)),0)))) else (some (0,2)))) else (some (0,E5))) = some (r1,r2):=H
 have A4:=af.mk ME
 clear ME
 by_cases c5:E5 = 0
 ·rw [if_pos c5] at H
  have yt:(E5 == 0) = true:=beq_iff_eq.mpr c5
  have amd:(E5 != 0) = false:=bne_eq_false_iff_eq.mpr c5
  clear c5
  replace H:=Option.bind_eq_some_iff.mp H
  obtain ⟨XA,Nn,H⟩:=H
  replace H:(if XA = true then (if aQ < aJ then (some (0,19)) else (if (Ck) = 0 then (some (0,4)) else (some (an (Int.tdiv (an (aQ - aJ)) (Ck)),0)))) else (some (0,2))) = some (r1,r2):=H
  have A6:=af.mk Nn
  clear Nn
  by_cases c7:XA = true
  ·subst c7
   have H1:(if aQ < aJ then (some (0,19)) else (if (Ck) = 0 then (some (0,4)) else (some (an (Int.tdiv (an (aQ - aJ)) (Ck)),0)))) = some (r1,r2):=by rw [if_pos rfl] at H;exact H
   clear H
   have H:=H1
   clear H1
   by_cases c8:aQ < aJ
   ·rw [if_pos c8] at H
    have GJ:decide (aQ < aJ) = true:=decide_eq_true c8
    clear c8
    simp only [Option.some.injEq,Prod.mk.injEq] at H
    obtain ⟨rfl,rfl⟩:=H
    go_enter Try.func37,Try.ntmps37
    go_wp2_with (first|((with_reducible refine av (N:=2) rfl ?_);refine ak (by rfl) (N:=2) (by rfl) (cs:=#[Z ab ai,Z ab aj,Z ab az,Z ab aA,Z ab aI,Z ab aD,Z ab aJ]) (t:=29) fU ?_;intro ahX hg w9 ay hb;have kH:=af.mk (ay);have ahY:=bY HB hg;have ahZ:=bY HB hg;replace HB:=dz HB hb;clear hb ay hg)|((with_reducible refine av (N:=3) rfl ?_);refine ak (by rfl) (N:=3) (by rfl) (cs:=#[Z ab aQ,Z ab aN]) (t:=27) fU ?_;intro ah0 hg w10 ay hb;have pE:=af.mk (ay);have ah1:=bY HB hg;have ah2:=bY HB hg;have tX:=fG kH hg;have tY:=fH kH hg;replace kH:=bn kH hb;replace HB:=dz HB hb;clear hb ay hg;have adj:=tX.out;have adk:=tY.out;obtain ⟨qa,qb,Sm,Sn,asR,asS,asT,qc,qd,Sq,Sr,asU,asV,asW⟩:=kz kH.out)|((with_reducible refine aU (f:=27) rfl ?_);refine dn (some 16) rfl rfl Try.func27 aT rfl #[.agg #[Z ab ai,Z ab aj,Z ab az,Z ab aA,Z ab aI,Z ab aD,Z ab aJ]] rfl jB ?_;(with_reducible refine (eD.calls k ai aj az aA aI aD aJ E5 _ A4.out).mono ?_);rintro e GK ⟨rfl,hb⟩;refine ⟨_,rfl,?_⟩;replace kH:=bn kH hb;replace pE:=bn pE hb;replace HB:=dz HB hb;(try clear hb);(try clear hb2);(try clear hk);(try clear hi);obtain ⟨AY,AZ,Ba,Bb⟩:=iQ pE.out)|((with_reducible refine aU (f:=77) rfl ?_);refine dn (some 23) rfl rfl Try.func77 aT rfl #[.agg #[Z ab aQ,Z ab aN],Z ab 0,Z ab 1073741824] rfl jB ?_;(with_reducible refine (cK.calls k aQ aN 0 1073741824 true _ A6.out).mono ?_);rintro e w15 ⟨rfl,hb⟩;refine ⟨_,rfl,?_⟩;replace kH:=bn kH hb;replace pE:=bn pE hb;replace HB:=dz HB hb;(try clear hb);(try clear hb2);(try clear hk);(try clear hi);obtain ⟨Zn,Zo,Zp,Zq⟩:=iQ pE.out;obtain ⟨tJ,tK,wH,wI,DD,DF,Kz,tL,tN,wJ,wK,DI,DJ,KA⟩:=kz kH.out))
    go_ret2
    exact ⟨zq9,gp⟩
   ·rw [if_neg c8] at H
    have GJ:decide (aQ < aJ) = false:=decide_eq_false c8
    clear c8
    by_cases c18:(Ck) = 0
    ·rw [if_pos c18] at H
     have Rt:((Ck) == 0) = true:=beq_iff_eq.mpr c18
     have aFI:((Ck) != 0) = false:=bne_eq_false_iff_eq.mpr c18
     clear c18
     simp only [Option.some.injEq,Prod.mk.injEq] at H
     obtain ⟨rfl,rfl⟩:=H
     go_enter Try.func37,Try.ntmps37
     go_wp2_with (first|((with_reducible refine av (N:=2) rfl ?_);refine ak (by rfl) (N:=2) (by rfl) (cs:=#[Z ab ai,Z ab aj,Z ab az,Z ab aA,Z ab aI,Z ab aD,Z ab aJ]) (t:=29) fU ?_;intro ahX hg w19 ay hb;have kH:=af.mk (ay);have ahY:=bY HB hg;have ahZ:=bY HB hg;replace HB:=dz HB hb;clear hb ay hg)|((with_reducible refine av (N:=3) rfl ?_);refine ak (by rfl) (N:=3) (by rfl) (cs:=#[Z ab aQ,Z ab aN]) (t:=27) fU ?_;intro ah0 hg Jb ay hb;have pE:=af.mk (ay);have ah1:=bY HB hg;have ah2:=bY HB hg;have tX:=fG kH hg;have tY:=fH kH hg;replace kH:=bn kH hb;replace HB:=dz HB hb;clear hb ay hg;have adm:=tX.out;have adn:=tY.out;obtain ⟨NC,ND,Zr,Zt,ah3,ah4,ah5,NF,NG,Zu,Zv,ah6,ah7,ah8⟩:=kz kH.out)|((with_reducible refine aU (f:=27) rfl ?_);refine dn (some 16) rfl rfl Try.func27 aT rfl #[.agg #[Z ab ai,Z ab aj,Z ab az,Z ab aA,Z ab aI,Z ab aD,Z ab aJ]] rfl jB ?_;(with_reducible refine (eD.calls k ai aj az aA aI aD aJ E5 _ A4.out).mono ?_);rintro e w23 ⟨rfl,hb⟩;refine ⟨_,rfl,?_⟩;replace kH:=bn kH hb;replace pE:=bn pE hb;replace HB:=dz HB hb;(try clear hb);(try clear hb2);(try clear hk);(try clear hi);obtain ⟨wP,wQ,wS,wT⟩:=iQ pE.out)|((with_reducible refine aU (f:=77) rfl ?_);refine dn (some 23) rfl rfl Try.func77 aT rfl #[.agg #[Z ab aQ,Z ab aN],Z ab 0,Z ab 1073741824] rfl jB ?_;(with_reducible refine (cK.calls k aQ aN 0 1073741824 true _ A6.out).mono ?_);rintro e w25 ⟨rfl,hb⟩;refine ⟨_,rfl,?_⟩;replace kH:=bn kH hb;replace pE:=bn pE hb;replace HB:=dz HB hb;(try clear hb);(try clear hb2);(try clear hk);(try clear hi);obtain ⟨ah9,aia,aib,aic⟩:=iQ pE.out;obtain ⟨Bl,Bn,Bo,Bp,D8,D9,Ea,Bq,Br,Bt,Bu,Eb,Ec,Ed⟩:=kz kH.out))
     go_ret2
     exact ⟨zq9,gp⟩
    ·rw [if_neg c18] at H
     have Rt:((Ck) == 0) = false:=beq_eq_false_iff_ne.mpr c18
     have aFI:((Ck) != 0) = true:=bne_iff_ne.mpr c18
     simp only [Option.some.injEq,Prod.mk.injEq] at H
     obtain ⟨rfl,rfl⟩:=H
     go_enter Try.func37,Try.ntmps37
     go_wp2_with (first|((with_reducible refine av (N:=2) rfl ?_);refine ak (by rfl) (N:=2) (by rfl) (cs:=#[Z ab ai,Z ab aj,Z ab az,Z ab aA,Z ab aI,Z ab aD,Z ab aJ]) (t:=29) fU ?_;intro ahX hg w28 ay hb;have kH:=af.mk (ay);have ahY:=bY HB hg;have ahZ:=bY HB hg;replace HB:=dz HB hb;clear hb ay hg)|((with_reducible refine av (N:=3) rfl ?_);refine ak (by rfl) (N:=3) (by rfl) (cs:=#[Z ab aQ,Z ab aN]) (t:=27) fU ?_;intro ah0 hg w29 ay hb;have pE:=af.mk (ay);have ah1:=bY HB hg;have ah2:=bY HB hg;have tX:=fG kH hg;have tY:=fH kH hg;replace kH:=bn kH hb;replace HB:=dz HB hb;clear hb ay hg;have aox:=tX.out;have aoy:=tY.out;obtain ⟨Zw,Zx,aid,aie,asX,asY,asZ,Zy,Zz,aif,aih,as0,as1,as2⟩:=kz kH.out)|((with_reducible refine aU (f:=27) rfl ?_);refine dn (some 16) rfl rfl Try.func27 aT rfl #[.agg #[Z ab ai,Z ab aj,Z ab az,Z ab aA,Z ab aI,Z ab aD,Z ab aJ]] rfl jB ?_;(with_reducible refine (eD.calls k ai aj az aA aI aD aJ E5 _ A4.out).mono ?_);rintro e w32 ⟨rfl,hb⟩;refine ⟨_,rfl,?_⟩;replace kH:=bn kH hb;replace pE:=bn pE hb;replace HB:=dz HB hb;(try clear hb);(try clear hb2);(try clear hk);(try clear hi);obtain ⟨Ny,Nz,NA,NB⟩:=iQ pE.out)|((with_reducible refine aU (f:=77) rfl ?_);refine dn (some 23) rfl rfl Try.func77 aT rfl #[.agg #[Z ab aQ,Z ab aN],Z ab 0,Z ab 1073741824] rfl jB ?_;(with_reducible refine (cK.calls k aQ aN 0 1073741824 true _ A6.out).mono ?_);rintro e w34 ⟨rfl,hb⟩;refine ⟨_,rfl,?_⟩;replace kH:=bn kH hb;replace pE:=bn pE hb;replace HB:=dz HB hb;(try clear hb);(try clear hb2);(try clear hk);(try clear hi);obtain ⟨zH,zI,zJ,zK⟩:=iQ pE.out;obtain ⟨NH,NI,Su,Sv,aii,aij,aik,NJ,NK,Sw,Sy,ail,aim,ain⟩:=kz kH.out))
     go_ret2
     exact ⟨zq9,gp⟩
  ·replace c7:=Bool.eq_false_iff.mpr c7
   subst c7
   have H1:(some (0,2)) = some (r1,r2):=by rw [if_neg (show ¬ (false = true) by decide)] at H;exact H
   clear H
   have H:=H1
   clear H1
   simp only [Option.some.injEq,Prod.mk.injEq] at H
   obtain ⟨rfl,rfl⟩:=H
   go_enter Try.func37,Try.ntmps37
   go_wp2_with (first|((with_reducible refine av (N:=2) rfl ?_);refine ak (by rfl) (N:=2) (by rfl) (cs:=#[Z ab ai,Z ab aj,Z ab az,Z ab aA,Z ab aI,Z ab aD,Z ab aJ]) (t:=29) fU ?_;intro ahX hg w37 ay hb;have kH:=af.mk (ay);have ahY:=bY HB hg;have ahZ:=bY HB hg;replace HB:=dz HB hb;clear hb ay hg)|((with_reducible refine av (N:=3) rfl ?_);refine ak (by rfl) (N:=3) (by rfl) (cs:=#[Z ab aQ,Z ab aN]) (t:=27) fU ?_;intro ah0 hg w38 ay hb;have pE:=af.mk (ay);have ah1:=bY HB hg;have ah2:=bY HB hg;have tX:=fG kH hg;have tY:=fH kH hg;replace kH:=bn kH hb;replace HB:=dz HB hb;clear hb ay hg;have aFJ:=tX.out;have aFK:=tY.out;obtain ⟨aio,aip,as3,as4,aM1,aM2,aM3,aiq,air,as5,as6,aM4,aM5,aM6⟩:=kz kH.out)|((with_reducible refine aU (f:=27) rfl ?_);refine dn (some 16) rfl rfl Try.func27 aT rfl #[.agg #[Z ab ai,Z ab aj,Z ab az,Z ab aA,Z ab aI,Z ab aD,Z ab aJ]] rfl jB ?_;(with_reducible refine (eD.calls k ai aj az aA aI aD aJ E5 _ A4.out).mono ?_);rintro e w41 ⟨rfl,hb⟩;refine ⟨_,rfl,?_⟩;replace kH:=bn kH hb;replace pE:=bn pE hb;replace HB:=dz HB hb;(try clear hb);(try clear hb2);(try clear hk);(try clear hi);obtain ⟨as7,as8,as9,ata⟩:=iQ pE.out)|((with_reducible refine aU (f:=77) rfl ?_);refine dn (some 23) rfl rfl Try.func77 aT rfl #[.agg #[Z ab aQ,Z ab aN],Z ab 0,Z ab 1073741824] rfl jB ?_;(with_reducible refine (cK.calls k aQ aN 0 1073741824 false _ A6.out).mono ?_);rintro e w43 ⟨rfl,hb⟩;refine ⟨_,rfl,?_⟩;replace kH:=bn kH hb;replace pE:=bn pE hb;replace HB:=dz HB hb;(try clear hb);(try clear hb2);(try clear hk);(try clear hi)))
   go_ret2
   exact ⟨zq9,gp⟩
 ·rw [if_neg c5] at H
  have yt:(E5 == 0) = false:=beq_eq_false_iff_ne.mpr c5
  have amd:(E5 != 0) = true:=bne_iff_ne.mpr c5
  simp only [Option.some.injEq,Prod.mk.injEq] at H
  obtain ⟨rfl,rfl⟩:=H
  go_enter Try.func37,Try.ntmps37
  go_wp2_with (first|((with_reducible refine av (N:=2) rfl ?_);refine ak (by rfl) (N:=2) (by rfl) (cs:=#[Z ab ai,Z ab aj,Z ab az,Z ab aA,Z ab aI,Z ab aD,Z ab aJ]) (t:=29) fU ?_;intro ahX hg w44 ay hb;have kH:=af.mk (ay);have ahY:=bY HB hg;have ahZ:=bY HB hg;replace HB:=dz HB hb;clear hb ay hg)|((with_reducible refine av (N:=3) rfl ?_);refine ak (by rfl) (N:=3) (by rfl) (cs:=#[Z ab aQ,Z ab aN]) (t:=27) fU ?_;intro ah0 hg w45 ay hb;have pE:=af.mk (ay);have ah1:=bY HB hg;have ah2:=bY HB hg;have tX:=fG kH hg;have tY:=fH kH hg;replace kH:=bn kH hb;replace HB:=dz HB hb;clear hb ay hg;have aoz:=tX.out;have aoA:=tY.out;obtain ⟨ais,ait,atb,atc,atd,ate,atf,aiu,aiv,atg,ath,ati,atj,atl⟩:=kz kH.out)|((with_reducible refine aU (f:=27) rfl ?_);refine dn (some 16) rfl rfl Try.func27 aT rfl #[.agg #[Z ab ai,Z ab aj,Z ab az,Z ab aA,Z ab aI,Z ab aD,Z ab aJ]] rfl jB ?_;(with_reducible refine (eD.calls k ai aj az aA aI aD aJ E5 _ A4.out).mono ?_);rintro e w48 ⟨rfl,hb⟩;refine ⟨_,rfl,?_⟩;replace kH:=bn kH hb;replace pE:=bn pE hb;replace HB:=dz HB hb;(try clear hb);(try clear hb2);(try clear hk);(try clear hi)))
  go_ret2
  exact ⟨zq9,gp⟩
def df.l0:Nat→Int→Int→Int→Int→Int→Int→Int→Int→List Bool→List (qK)→Option (Int × Int × Int × Int × Int × Int × Int × List Bool × (List (qK)) × Int × Int × Int × Int × Int × Int × Int)
 |0,_,_,_,_,_,_,_,_,_,_=>none
 |k+1,x3,aiw,aix,aiy,aiz,aiA,aiB,aiC,aiD,ZA=>if x3 < 16 then (if ZA.length < 4398046511104 then (df.l0 k (an (x3+1)) aiw aix aiy aiz aiA aiB aiC aiD (ZA++[(⟨(⟨(-100),100⟩:jK),(⟨0,0⟩:jK)⟩:qK)])) else (none)) else (some (aiw,aix,aiy,aiz,aiA,aiB,aiC,aiD,ZA,300,1000,50,60,5,6,100))
def df.f (k:Nat):Option (Int × Int × Int × Int × Int × Int × Int × List Bool × (List (qK)) × Int × Int × Int × Int × Int × Int × Int):=if 16≤281474976710656 then (df.l0 k 0 4 4 1000 10000 1 1 200 (List.replicate 16 false) ([]:List (qK))) else (none)
theorem df.Vv:∀ k,(∀ y0 y1 y2 y3 y4 y5 y6 y7 y8 y9,oV (df.l0 k y0 y1 y2 y3 y4 y5 y6 y7 y8 y9) (df.l0 (k+1) y0 y1 y2 y3 y4 y5 y6 y7 y8 y9))
 |0=>fun _ _ _ _ _ _ _ _ _ _ r h=>by simp [df.l0] at h
 |k+1=>by
  have ih0:=df.Vv k
  ·intro y0 y1 y2 y3 y4 y5 y6 y7 y8 y9
   unfold df.l0
   repeat' first
   |(with_reducible exact ih0 _ _ _ _ _ _ _ _ _ _)
   |(with_reducible exact oV.refl _)
   |(with_reducible exact oV.none _)
   |(with_reducible refine oV.ite ?_ ?_)
   |(with_reducible refine oV.bind ?_ (fun _=>?_))
   |exact ih0 _ _ _ _ _ _ _ _ _ _
   |exact oV.none _
   |refine oV.ite ?_ ?_
   |refine oV.bind ?_ (fun _=>?_)
theorem df.mono:∀ k,oV (df.f k) (df.f (k+1)):=by
 intro k
 have ih0:=df.Vv k
 unfold df.f
 repeat' first
  |(with_reducible exact ih0 _ _ _ _ _ _ _ _ _ _)
  |(with_reducible exact oV.refl _)
  |(with_reducible exact oV.none _)
  |(with_reducible refine oV.ite ?_ ?_)
  |(with_reducible refine oV.bind ?_ (fun _=>?_))
  |exact ih0 _ _ _ _ _ _ _ _ _ _
  |exact oV.none _
  |refine oV.ite ?_ ?_
  |refine oV.bind ?_ (fun _=>?_)
theorem df.calls (k:Nat) (r1:Int) (r2:Int) (r3:Int) (r4:Int) (r5:Int) (r6:Int) (r7:Int) (r8:List Bool) (r9:List (qK)) (r10:Int) (r11:Int) (r12:Int) (r13:Int) (r14:Int) (r15:Int) (r16:Int) (w:ao) (h:df.f k = some (r1,r2,r3,r4,r5,r6,r7,r8,r9,r10,r11,r12,r13,r14,r15,r16)):
 Calls Try.prog 61 #[] w fun e w'=>∃ v7_ v8_:Value,e = .returned (.tuple #[.agg #[Z ab r1,Z ab r2,Z ab r3,Z ab r4,Z ab r5,Z ab r6,Z ab r7,v7_,v8_],.agg #[Z ab r10,Z ab r11,Z ab r12,Z ab r13,Z ab r14,Z ab r15,Z ab r16]])∧Kd.R Kd.bool 4 w' w.heap.size (fun _=>True) v7_ r8∧Kd.R Dt 40 w' w.heap.size (fun _=>True) v8_ r9∧Below w.heap.size w w':=by
 have xS:=Try.underlying25
 have vo:=Try.underlying29
 have oO:=Try.underlying27
 have atm:=Try.underlying40
 have HB:=af.mk (Below.refl w.heap.size w)
 have H:(if 16≤281474976710656 then (df.l0 k 0 4 4 1000 10000 1 1 200 (List.replicate 16 false) ([]:List (qK))) else (none)) = some (r1,r2,r3,r4,r5,r6,r7,r8,r9,r10,r11,r12,r13,r14,r15,r16):=h
 clear h
 by_cases c1:16≤281474976710656
 ·rw [if_pos c1] at H
  have aWr:=eq_true c1
  have aWs:decide (16≤281474976710656) = true:=decide_eq_true c1
  clear c1
  obtain ⟨NL,ado⟩:∃ y_:List Bool,y_ = (List.replicate 16 false):=⟨_,rfl⟩
  replace H:(df.l0 k 0 4 4 1000 10000 1 1 200 NL ([]:List (qK))) = some (r1,r2,r3,r4,r5,r6,r7,r8,r9,r10,r11,r12,r13,r14,r15,r16):=by first|(rw [ado];with_reducible exact H)|(have yu:=(aE _ _).symm.trans H;rw [ado];with_reducible exact yu)|(have yu:=(aE _ _).symm.trans H;with_reducible exact yu)|with_reducible exact H|(rw [ado];exact H)|exact H
  have azK:=af.mk ado
  clear ado
  have H':=af.mk H
  clear H
  go_enter Try.func61,Try.ntmps61
  go_wp2_with (first|((with_reducible refine av (N:=0) rfl ?_);refine ak (by rfl) (N:=0) (by rfl) (cs:=#[Z ab 0,Z ab 0,Z ab 0,Z ab 0,Z ab 0,Z ab 0,Z ab 0,.slice none 0 0,.slice none 0 0]) (t:=25) fU ?_;intro uD hg w2 ay hb;have xY:=af.mk (ay);have aZ9:=bY HB hg;have a0a:=bY HB hg;replace HB:=dz HB hb;clear hb ay hg)|((with_reducible refine av (N:=1) rfl ?_);refine ak (by rfl) (N:=1) (by rfl) (cs:=#[Z ab 0,Z ab 0,Z ab 0,Z ab 0,Z ab 0,Z ab 0,Z ab 0]) (t:=29) fU ?_;intro Ae hg w3 ay hb;have Eo:=af.mk (ay);have a0b:=bY HB hg;have a0c:=bY HB hg;have vH:=fG xY hg;have qZ:=fH xY hg;replace xY:=bn xY hb;replace HB:=dz HB hb;clear hb ay hg)|((with_reducible refine av (N:=4) rfl ?_);refine Kd.aBH Kd.bool _ 4 rfl (N:=4) rfl 22 _ _ rfl 16 rfl rfl Try.underlying22 (.bool false) 1 aFD rfl (by decide) (by omega) false (ok:=fun _=>True) (okp:=fun _=>True) rfl (fun _ hk=>hk) trivial (by omega) (by omega) (Below.refl _ _) (Nat.le_refl _) ?_;intro a4W w4 ho5 hb Jn oC;clear Jn oC;(first|rw [← azK.out] at ho5|(simp only [Int.reduceToNat] at ho5;rw [← azK.out] at ho5));have aiE:=af.mk (Kd.kv ho5 (fM gp));replace xY:=bn xY hb;replace Eo:=bn Eo hb;replace HB:=dz HB hb;clear hb ho5;obtain ⟨Ao6,co6,eo6⟩:=Kd.lM aiE.out;subst eo6)|((with_reducible refine av (N:=2) rfl ?_);refine ak (by rfl) (N:=2) (by rfl) (cs:=#[Z ab 0,Z ab 0,Z ab 0,Z ab 0,Z ab 0,Z ab 0,Z ab 0,.slice none 0 0,.slice none 0 0]) (t:=25) fU ?_;intro Fv hg w7 ay hb;have Fw:=af.mk (ay);have a0d:=bY HB hg;have a0e:=bY HB hg;have Qd:=fG xY hg;have Qe:=fH xY hg;have Qf:=fG Eo hg;have Qg:=fH Eo hg;replace aiE:=wh aiE hb;replace xY:=bn xY hb;replace Eo:=bn Eo hb;replace HB:=dz HB hb;clear hb ay hg;have adp:=Qe.out;have adq:=Qd.out;have atn:=Qg.out;have ato:=Qf.out;obtain ⟨sP,sQ,NM,NN,ZB,ZC,ZE,aiF,aiG,sS,sU,NP,NQ,ZF,ZG,ZH,aiH,aiI⟩:=jS Fw.out))
  go_loopg [3] k (fun kq v3 w'=>∃ (adr:Int) (tZ:List (qK)) (KR:Value),v3 = Z ab adr∧af (df.l0 kq adr 4 4 1000 10000 1 1 200 NL tZ = some (r1,r2,r3,r4,r5,r6,r7,r8,r9,r10,r11,r12,r13,r14,r15,r16))∧af (kq≤k)∧af (Kd.R Kd.bool 4 w' w.heap.size (fun _=>True) (.slice Ao6 NL.length co6) NL)∧af (Kd.R Dt 40 w' w.heap.size (fun _=>True) KR tZ)∧af (w'.heap[uD]? = some (.cells #[Z ab 0,Z ab 0,Z ab 0,Z ab 0,Z ab 0,Z ab 0,Z ab 0,(.slice none 0 0),(.slice none 0 0)] 25 (0,0)))∧af (w'.heap[Ae]? = some (.cells #[Z ab 0,Z ab 0,Z ab 0,Z ab 0,Z ab 0,Z ab 0,Z ab 0] 29 (0,0)))∧af (w'.heap[Fv]? = some (.cells #[Z ab 4,Z ab 4,Z ab 1000,Z ab 10000,Z ab 1,Z ab 1,Z ab 200,(.slice Ao6 NL.length co6),KR] 25 (0,0)))∧af (Below w.heap.size w w'))
  case atStart=>exact ⟨(0),(([]:List (qK))),(.slice none 0 0),om,H',⟨Nat.le_refl _⟩,⟨by (with_reducible repeat (first|apply Kd.ky|apply Kd.jY|apply Kd.jP));exact Kd.jX (Kd.fu (p:=⟨Fv,8,none⟩) (Kd.fu (p:=⟨Fv,7,none⟩) (Kd.fu (p:=⟨Fv,6,none⟩) (Kd.fu (p:=⟨Fv,5,none⟩) (Kd.fu (p:=⟨Fv,4,none⟩) (Kd.fu (p:=⟨Fv,3,none⟩) (Kd.fu (p:=⟨Fv,2,none⟩) (Kd.fu (p:=⟨Fv,1,none⟩) (Kd.fu (p:=⟨Fv,0,none⟩) (Kd.sO aiE.out Fw.out (by decide)) (fun _ hk=>hk.2) (Z ab 4)) (fun _ hk=>hk.2) (Z ab 4)) (fun _ hk=>hk.2) (Z ab 1000)) (fun _ hk=>hk.2) (Z ab 10000)) (fun _ hk=>hk.2) (Z ab 1)) (fun _ hk=>hk.2) (Z ab 1)) (fun _ hk=>hk.2) (Z ab 200)) (fun _ hk=>hk.2) (.slice Ao6 NL.length co6)) (fun _ hk=>hk.2) (.slice none 0 0)) (fun _ hk=>trivial)⟩,⟨aod⟩,⟨iK⟩,⟨iK⟩,⟨by (with_reducible repeat (first|refine au ?_ _|refine ag ?_|refine aa ?_ _));refine aK (cs:=#[Z ab 4,Z ab 4,Z ab 1000,Z ab 10000,Z ab 1,Z ab 1,Z ab 200,.slice Ao6 NL.length co6,.slice none 0 0]) ?_ 8 _ rfl;(with_reducible repeat (first|refine au ?_ _|refine ag ?_|refine aa ?_ _));refine aK (cs:=#[Z ab 4,Z ab 4,Z ab 1000,Z ab 10000,Z ab 1,Z ab 1,Z ab 200,.slice none 0 0,.slice none 0 0]) ?_ 7 _ rfl;(with_reducible repeat (first|refine au ?_ _|refine ag ?_|refine aa ?_ _));refine aK (cs:=#[Z ab 4,Z ab 4,Z ab 1000,Z ab 10000,Z ab 1,Z ab 1,Z ab 0,.slice none 0 0,.slice none 0 0]) ?_ 6 _ rfl;(with_reducible repeat (first|refine au ?_ _|refine ag ?_|refine aa ?_ _));refine aK (cs:=#[Z ab 4,Z ab 4,Z ab 1000,Z ab 10000,Z ab 1,Z ab 0,Z ab 0,.slice none 0 0,.slice none 0 0]) ?_ 5 _ rfl;(with_reducible repeat (first|refine au ?_ _|refine ag ?_|refine aa ?_ _));refine aK (cs:=#[Z ab 4,Z ab 4,Z ab 1000,Z ab 10000,Z ab 0,Z ab 0,Z ab 0,.slice none 0 0,.slice none 0 0]) ?_ 4 _ rfl;(with_reducible repeat (first|refine au ?_ _|refine ag ?_|refine aa ?_ _));refine aK (cs:=#[Z ab 4,Z ab 4,Z ab 1000,Z ab 0,Z ab 0,Z ab 0,Z ab 0,.slice none 0 0,.slice none 0 0]) ?_ 3 _ rfl;(with_reducible repeat (first|refine au ?_ _|refine ag ?_|refine aa ?_ _));refine aK (cs:=#[Z ab 4,Z ab 4,Z ab 0,Z ab 0,Z ab 0,Z ab 0,Z ab 0,.slice none 0 0,.slice none 0 0]) ?_ 2 _ rfl;(with_reducible repeat (first|refine au ?_ _|refine ag ?_|refine aa ?_ _));refine aK (cs:=#[Z ab 4,Z ab 0,Z ab 0,Z ab 0,Z ab 0,Z ab 0,Z ab 0,.slice none 0 0,.slice none 0 0]) ?_ 1 _ rfl;(with_reducible repeat (first|refine au ?_ _|refine ag ?_|refine aa ?_ _));refine aK (cs:=#[Z ab 0,Z ab 0,Z ab 0,Z ab 0,Z ab 0,Z ab 0,Z ab 0,.slice none 0 0,.slice none 0 0]) ?_ 0 _ rfl;(with_reducible repeat (first|refine au ?_ _|refine ag ?_|refine aa ?_ _));exact Fw.out⟩,⟨gp⟩⟩
  case round =>
   clear H'
   try clear c1
   try clear aWr
   try clear aWs
   try clear p2
   try clear c6
   try clear c8
   try clear c9
   try clear sP sQ NM NN ZB ZC ZE aiF aiG sS sU NP NQ ZF ZG ZH aiH aiI
   obtain ⟨adr,tZ,KR,rfl,HA,Cj,Fx,ym,xY,Eo,Fw,HB⟩:=hrel
   cases gk with
   |zero=>exact absurd HA.out (by simp [df.l0])
   |succ k1 =>
    have H:=HA.out
    clear HA
    simp only [df.l0] at H
    by_cases c11:adr < 16
    ·rw [if_pos c11] at H
     have I9:decide (adr < 16) = true:=decide_eq_true c11
     clear c11
     by_cases c12:tZ.length < 4398046511104
     ·rw [if_pos c12] at H
      have aoB:=af.mk c12
      clear c12
      obtain ⟨aoC,ads⟩:∃ y_:List (qK),y_ = (tZ++[(⟨(⟨(-100),100⟩:jK),(⟨0,0⟩:jK)⟩:qK)]):=⟨_,rfl⟩
      replace H:(df.l0 k1 (an (adr+1)) 4 4 1000 10000 1 1 200 NL aoC) = some (r1,r2,r3,r4,r5,r6,r7,r8,r9,r10,r11,r12,r13,r14,r15,r16):=by first|(rw [ads];with_reducible exact H)|(have yu:=(aE _ _).symm.trans H;rw [ads];with_reducible exact yu)|(have yu:=(aE _ _).symm.trans H;with_reducible exact yu)|with_reducible exact H|(rw [ads];exact H)|exact H
      have aFO:=af.mk ads
      clear ads
      have H':=af.mk H
      clear H
      have adt:=Qe.out
      have adu:=Qd.out
      have aiJ:=Qg.out
      have aiK:=Qf.out
      obtain ⟨oG,oH,rH,rJ,tu,tC,zA,Bv,Bw,oI,oJ,rM,rO,tF,tH,zB,Bz,BA⟩:=jS Fw.out
      go_wp2_with (first|((with_reducible refine pz (b:=.append) (xs:=#[.tmp 11,.tmp 14]) rfl ?_);at_builtin;refine Kd.Cg Dt (w0:=w) w.heap.size rfl (.tmp 11) (.tmp 14) 23 40 (.agg #[(Z ab 0),(Z ab 0),(Z ab 0),(Z ab 0)]) 32 rfl Try.underlying23 aB4 rfl (by decide) (by omega) KR tZ (⟨(⟨(-100),100⟩:jK),(⟨0,0⟩:jK)⟩:qK) [Z ab (-100),Z ab 100,Z ab 0,Z ab 0] (fun _=>True) (fun _=>False) rfl rfl ?aP (fun _ hk=>hk.elim) ?aF ?aO ?aB ?aS ?aL ?_;(case aP=>exact asQ _ _ _ (⟨(⟨(-100),100⟩:jK),(⟨0,0⟩:jK)⟩:qK));(case aB=>exact gp);(case aF=>exact (fun _ _=>trivial));(case aO=>exact aE9);(case aS=>exact (fM gp));(case aL=>have:=aoB.out;omega);intro a4Y w16 ho hb hg hat;rw [← aFO.out] at ho;have vv:=af.mk (Kd.asv (by (with_reducible repeat (first|apply Kd.ky|apply Kd.jY|apply Kd.jP));exact Fx.out) (Kd.ahH aE9) (by decide) hg);have vw:=af.mk (iF (g:=uD) (o:=.cells #[Z ab 0,Z ab 0,Z ab 0,Z ab 0,Z ab 0,Z ab 0,Z ab 0,.slice none 0 0,.slice none 0 0] 25 (0,0)) iK hg (Kd.af6 ym.out xY.out (by decide)));have vz:=af.mk (iF (g:=Ae) (o:=.cells #[Z ab 0,Z ab 0,Z ab 0,Z ab 0,Z ab 0,Z ab 0,Z ab 0] 29 (0,0)) iK hg (Kd.af6 ym.out Eo.out (by decide)));have vB:=af.mk (iF (g:=Fv) (o:=.cells #[Z ab 4,Z ab 4,Z ab 1000,Z ab 10000,Z ab 1,Z ab 1,Z ab 200,.slice Ao6 NL.length co6,KR] 25 (0,0)) iK hg (Kd.af6 ym.out Fw.out (by decide)));have xU:=af.mk (hb);have Jo:=af.mk (ho);clear Fx;clear xY;clear Eo;clear Fw;clear HB;clear ym;have Fx:=vv;have xY:=vw;have Eo:=vz;have Fw:=vB;have HB:=xU;have azL:=Jo;clear vv vw vz vB xU Jo;clear ho hb hg hat;obtain ⟨aCb,aCc,aWt⟩:=Kd.lM azL.out;subst aWt;obtain ⟨Ep,Er,Sz,SA,atp,atq,atr,att,atu,Es,Et,SB,SC,atv,atw,atx,aty,atz⟩:=jS Fw.out))
      go_roundg k1
      case measure=>have:=Cj.out;omega
      case rel=>exact ⟨(an (adr+1)),(aoC),(.slice aCb aoC.length aCc),om,H',⟨zq7⟩,⟨by (with_reducible repeat (first|apply Kd.ky|apply Kd.jY|apply Kd.jP));exact Kd.jX (Kd.fu (p:=⟨Fv,8,none⟩) (Kd.sO Fx.out Fw.out (by decide)) (fun _ hk=>hk.2) (.slice aCb aoC.length aCc)) (fun _ hk=>trivial)⟩,⟨by (with_reducible repeat (first|apply Kd.ky|apply Kd.jY|apply Kd.jP));exact Kd.jX (Kd.fu (p:=⟨Fv,8,none⟩) (Kd.sO azL.out Fw.out (by decide)) (fun _ hk=>hk.2) (.slice aCb aoC.length aCc)) (fun _ hk=>trivial)⟩,⟨iK⟩,⟨iK⟩,⟨by (with_reducible repeat (first|refine au ?_ _|refine ag ?_|refine aa ?_ _));refine aK (cs:=#[Z ab 4,Z ab 4,Z ab 1000,Z ab 10000,Z ab 1,Z ab 1,Z ab 200,.slice Ao6 NL.length co6,KR]) ?_ 8 _ rfl;(with_reducible repeat (first|refine au ?_ _|refine ag ?_|refine aa ?_ _));exact Fw.out⟩,⟨gp⟩⟩
     ·rw [if_neg c12] at H
      exact absurd H (by simp)
    ·rw [if_neg c11] at H
     have I9:decide (adr < 16) = false:=decide_eq_false c11
     clear c11
     simp only [Option.some.injEq,Prod.mk.injEq] at H
     obtain ⟨rfl,rfl,rfl,rfl,rfl,rfl,rfl,rfl,rfl,rfl,rfl,rfl,rfl,rfl,rfl,rfl⟩:=H
     have Ru:=Qe.out
     have Rv:=Qd.out
     have aoD:=Qg.out
     have aoE:=Qf.out
     obtain ⟨tO,tQ,DK,DL,DN,DR,DT,KS,KT,tT,tV,DU,DV,DW,DX,DY,KU,KV⟩:=jS Fw.out
     have adv:=vH.out
     have adw:=qZ.out
     obtain ⟨Bg,Bh,GV,GX,GY,GZ,KC,NR,NS,Bi,Bj,G5,G6,G7,G8,KD,NT,NU⟩:=jS xY.out
     obtain ⟨aCd,aCe,aWu⟩:=Kd.lM ym.out
     subst aWu
     obtain ⟨zC,zD,DZ,D5,KE,KF,KG,zF,zG,D6,D7,KH,KI,KJ⟩:=kz Eo.out
     go_wp2
     refine bodyPost_ret (af5 rfl _ _ uD Ae 25 29 #[Z ab 4,Z ab 4,Z ab 1000,Z ab 10000,Z ab 1,Z ab 1,Z ab 200,.slice Ao6 NL.length co6,.slice aCd tZ.length aCe] #[Z ab 300,Z ab 1000,Z ab 50,Z ab 60,Z ab 5,Z ab 6,Z ab 100] (0,0) (0,0) _ _ rfl (by (with_reducible repeat (first|refine au ?_ _|refine ag ?_|refine aa ?_ _));refine aM ?_ vH.out _;(with_reducible repeat (first|refine au ?_ _|refine ag ?_|refine aa ?_ _));refine aM ?_ vH.out _;(with_reducible repeat (first|refine au ?_ _|refine ag ?_|refine aa ?_ _));refine aM ?_ vH.out _;(with_reducible repeat (first|refine au ?_ _|refine ag ?_|refine aa ?_ _));refine aM ?_ vH.out _;(with_reducible repeat (first|refine au ?_ _|refine ag ?_|refine aa ?_ _));refine aM ?_ vH.out _;(with_reducible repeat (first|refine au ?_ _|refine ag ?_|refine aa ?_ _));refine aM ?_ vH.out _;(with_reducible repeat (first|refine au ?_ _|refine ag ?_|refine aa ?_ _));refine aM ?_ vH.out _;(with_reducible repeat (first|refine au ?_ _|refine ag ?_|refine aa ?_ _));refine aK (cs:=#[Z ab 4,Z ab 4,Z ab 1000,Z ab 10000,Z ab 1,Z ab 1,Z ab 200,.slice Ao6 NL.length co6,.slice none 0 0]) ?_ 8 _ rfl;(with_reducible repeat (first|refine au ?_ _|refine ag ?_|refine aa ?_ _));refine aK (cs:=#[Z ab 4,Z ab 4,Z ab 1000,Z ab 10000,Z ab 1,Z ab 1,Z ab 200,.slice none 0 0,.slice none 0 0]) ?_ 7 _ rfl;(with_reducible repeat (first|refine au ?_ _|refine ag ?_|refine aa ?_ _));refine aK (cs:=#[Z ab 4,Z ab 4,Z ab 1000,Z ab 10000,Z ab 1,Z ab 1,Z ab 0,.slice none 0 0,.slice none 0 0]) ?_ 6 _ rfl;(with_reducible repeat (first|refine au ?_ _|refine ag ?_|refine aa ?_ _));refine aK (cs:=#[Z ab 4,Z ab 4,Z ab 1000,Z ab 10000,Z ab 1,Z ab 0,Z ab 0,.slice none 0 0,.slice none 0 0]) ?_ 5 _ rfl;(with_reducible repeat (first|refine au ?_ _|refine ag ?_|refine aa ?_ _));refine aK (cs:=#[Z ab 4,Z ab 4,Z ab 1000,Z ab 10000,Z ab 0,Z ab 0,Z ab 0,.slice none 0 0,.slice none 0 0]) ?_ 4 _ rfl;(with_reducible repeat (first|refine au ?_ _|refine ag ?_|refine aa ?_ _));refine aK (cs:=#[Z ab 4,Z ab 4,Z ab 1000,Z ab 0,Z ab 0,Z ab 0,Z ab 0,.slice none 0 0,.slice none 0 0]) ?_ 3 _ rfl;(with_reducible repeat (first|refine au ?_ _|refine ag ?_|refine aa ?_ _));refine aK (cs:=#[Z ab 4,Z ab 4,Z ab 0,Z ab 0,Z ab 0,Z ab 0,Z ab 0,.slice none 0 0,.slice none 0 0]) ?_ 2 _ rfl;(with_reducible repeat (first|refine au ?_ _|refine ag ?_|refine aa ?_ _));refine aK (cs:=#[Z ab 4,Z ab 0,Z ab 0,Z ab 0,Z ab 0,Z ab 0,Z ab 0,.slice none 0 0,.slice none 0 0]) ?_ 1 _ rfl;(with_reducible repeat (first|refine au ?_ _|refine ag ?_|refine aa ?_ _));refine aK (cs:=#[Z ab 0,Z ab 0,Z ab 0,Z ab 0,Z ab 0,Z ab 0,Z ab 0,.slice none 0 0,.slice none 0 0]) ?_ 0 _ rfl;(with_reducible repeat (first|refine au ?_ _|refine ag ?_|refine aa ?_ _));exact xY.out) Try.underlying25 rfl aT rfl (by (with_reducible repeat (first|refine au ?_ _|refine ag ?_|refine aa ?_ _));refine aK (cs:=#[Z ab 300,Z ab 1000,Z ab 50,Z ab 60,Z ab 5,Z ab 6,Z ab 0]) ?_ 6 _ rfl;(with_reducible repeat (first|refine au ?_ _|refine ag ?_|refine aa ?_ _));refine aK (cs:=#[Z ab 300,Z ab 1000,Z ab 50,Z ab 60,Z ab 5,Z ab 0,Z ab 0]) ?_ 5 _ rfl;(with_reducible repeat (first|refine au ?_ _|refine ag ?_|refine aa ?_ _));refine aK (cs:=#[Z ab 300,Z ab 1000,Z ab 50,Z ab 60,Z ab 0,Z ab 0,Z ab 0]) ?_ 4 _ rfl;(with_reducible repeat (first|refine au ?_ _|refine ag ?_|refine aa ?_ _));refine aK (cs:=#[Z ab 300,Z ab 1000,Z ab 50,Z ab 0,Z ab 0,Z ab 0,Z ab 0]) ?_ 3 _ rfl;(with_reducible repeat (first|refine au ?_ _|refine ag ?_|refine aa ?_ _));refine aK (cs:=#[Z ab 300,Z ab 1000,Z ab 0,Z ab 0,Z ab 0,Z ab 0,Z ab 0]) ?_ 2 _ rfl;(with_reducible repeat (first|refine au ?_ _|refine ag ?_|refine aa ?_ _));refine aK (cs:=#[Z ab 300,Z ab 0,Z ab 0,Z ab 0,Z ab 0,Z ab 0,Z ab 0]) ?_ 1 _ rfl;(with_reducible repeat (first|refine au ?_ _|refine ag ?_|refine aa ?_ _));refine aK (cs:=#[Z ab 0,Z ab 0,Z ab 0,Z ab 0,Z ab 0,Z ab 0,Z ab 0]) ?_ 0 _ rfl;(with_reducible repeat (first|refine au ?_ _|refine ag ?_|refine aa ?_ _));refine aM ?_ qZ.out _;(with_reducible repeat (first|refine au ?_ _|refine ag ?_|refine aa ?_ _));refine aM ?_ qZ.out _;(with_reducible repeat (first|refine au ?_ _|refine ag ?_|refine aa ?_ _));refine aM ?_ qZ.out _;(with_reducible repeat (first|refine au ?_ _|refine ag ?_|refine aa ?_ _));refine aM ?_ qZ.out _;(with_reducible repeat (first|refine au ?_ _|refine ag ?_|refine aa ?_ _));refine aM ?_ qZ.out _;(with_reducible repeat (first|refine au ?_ _|refine ag ?_|refine aa ?_ _));refine aM ?_ qZ.out _;(with_reducible repeat (first|refine au ?_ _|refine ag ?_|refine aa ?_ _));refine aM ?_ qZ.out _;(with_reducible repeat (first|refine au ?_ _|refine ag ?_|refine aa ?_ _));refine aM ?_ qZ.out _;(with_reducible repeat (first|refine au ?_ _|refine ag ?_|refine aa ?_ _));refine aM ?_ qZ.out _;(with_reducible repeat (first|refine au ?_ _|refine ag ?_|refine aa ?_ _));exact Eo.out) Try.underlying29 rfl aT) rfl ?_
     exact ⟨_,_,mJ,by (with_reducible repeat (first|apply Kd.ky|apply Kd.jY|apply Kd.jP));exact Kd.jX (Kd.fu (p:=⟨Ae,6,none⟩) (Kd.fu (p:=⟨Ae,5,none⟩) (Kd.fu (p:=⟨Ae,4,none⟩) (Kd.fu (p:=⟨Ae,3,none⟩) (Kd.fu (p:=⟨Ae,2,none⟩) (Kd.fu (p:=⟨Ae,1,none⟩) (Kd.fu (p:=⟨Ae,0,none⟩) (Kd.fu (p:=⟨uD,8,none⟩) (Kd.fu (p:=⟨uD,7,none⟩) (Kd.fu (p:=⟨uD,6,none⟩) (Kd.fu (p:=⟨uD,5,none⟩) (Kd.fu (p:=⟨uD,4,none⟩) (Kd.fu (p:=⟨uD,3,none⟩) (Kd.fu (p:=⟨uD,2,none⟩) (Kd.fu (p:=⟨uD,1,none⟩) (Kd.fu (p:=⟨uD,0,none⟩) (Kd.sO (Kd.sO Fx.out xY.out (by decide)) Eo.out (by decide)) (fun _ hk=>hk.1.2) (Z ab 4)) (fun _ hk=>hk.1.2) (Z ab 4)) (fun _ hk=>hk.1.2) (Z ab 1000)) (fun _ hk=>hk.1.2) (Z ab 10000)) (fun _ hk=>hk.1.2) (Z ab 1)) (fun _ hk=>hk.1.2) (Z ab 1)) (fun _ hk=>hk.1.2) (Z ab 200)) (fun _ hk=>hk.1.2) (.slice Ao6 NL.length co6)) (fun _ hk=>hk.1.2) (.slice aCd tZ.length aCe)) (fun _ hk=>hk.2) (Z ab 300)) (fun _ hk=>hk.2) (Z ab 1000)) (fun _ hk=>hk.2) (Z ab 50)) (fun _ hk=>hk.2) (Z ab 60)) (fun _ hk=>hk.2) (Z ab 5)) (fun _ hk=>hk.2) (Z ab 6)) (fun _ hk=>hk.2) (Z ab 100)) (fun _ hk=>trivial),by (with_reducible repeat (first|apply Kd.ky|apply Kd.jY|apply Kd.jP));exact Kd.jX (Kd.fu (p:=⟨Ae,6,none⟩) (Kd.fu (p:=⟨Ae,5,none⟩) (Kd.fu (p:=⟨Ae,4,none⟩) (Kd.fu (p:=⟨Ae,3,none⟩) (Kd.fu (p:=⟨Ae,2,none⟩) (Kd.fu (p:=⟨Ae,1,none⟩) (Kd.fu (p:=⟨Ae,0,none⟩) (Kd.fu (p:=⟨uD,8,none⟩) (Kd.fu (p:=⟨uD,7,none⟩) (Kd.fu (p:=⟨uD,6,none⟩) (Kd.fu (p:=⟨uD,5,none⟩) (Kd.fu (p:=⟨uD,4,none⟩) (Kd.fu (p:=⟨uD,3,none⟩) (Kd.fu (p:=⟨uD,2,none⟩) (Kd.fu (p:=⟨uD,1,none⟩) (Kd.fu (p:=⟨uD,0,none⟩) (Kd.sO (Kd.sO ym.out xY.out (by decide)) Eo.out (by decide)) (fun _ hk=>hk.1.2) (Z ab 4)) (fun _ hk=>hk.1.2) (Z ab 4)) (fun _ hk=>hk.1.2) (Z ab 1000)) (fun _ hk=>hk.1.2) (Z ab 10000)) (fun _ hk=>hk.1.2) (Z ab 1)) (fun _ hk=>hk.1.2) (Z ab 1)) (fun _ hk=>hk.1.2) (Z ab 200)) (fun _ hk=>hk.1.2) (.slice Ao6 NL.length co6)) (fun _ hk=>hk.1.2) (.slice aCd tZ.length aCe)) (fun _ hk=>hk.2) (Z ab 300)) (fun _ hk=>hk.2) (Z ab 1000)) (fun _ hk=>hk.2) (Z ab 50)) (fun _ hk=>hk.2) (Z ab 60)) (fun _ hk=>hk.2) (Z ab 5)) (fun _ hk=>hk.2) (Z ab 6)) (fun _ hk=>hk.2) (Z ab 100)) (fun _ hk=>trivial),gp⟩
 ·rw [if_neg c1] at H
  exact absurd H (by simp)
def mM.f (a0:Int) (a1:Int):Option (Int × Int × Int × Int):=some (a0,a0,a1,a1)
theorem mM.calls (a0:Int) (a1:Int) (r1:Int) (r2:Int) (r3:Int) (r4:Int) (w:ao) (h:mM.f a0 a1 = some (r1,r2,r3,r4)):
 Calls Try.prog 62 #[Z ab a0,Z ab a1] w fun e w'=>e = .returned (.agg #[Z ab r1,Z ab r2,Z ab r3,Z ab r4])∧Below w.heap.size w w':=by
 have qj:=Try.underlying31
 have oO:=Try.underlying27
 have HB:=af.mk (Below.refl w.heap.size w)
 have H:(some (a0,a0,a1,a1)) = some (r1,r2,r3,r4):=h
 clear h
 simp only [Option.some.injEq,Prod.mk.injEq] at H
 obtain ⟨rfl,rfl,rfl,rfl⟩:=H
 go_enter Try.func62,Try.ntmps62
 go_wp2_with (first|((with_reducible refine av (N:=4) rfl ?_);refine ak (by rfl) (N:=4) (by rfl) (cs:=#[Z ab 0,Z ab 0,Z ab 0,Z ab 0]) (t:=31) fU ?_;intro aFP hg w3 ay hb;have azM:=af.mk (ay);have a0f:=bY HB hg;have a0g:=bY HB hg;replace HB:=dz HB hb;clear hb ay hg;obtain ⟨agl,agm,aoF,aoG,agn,agp,aoH,aoI⟩:=jA azM.out))
 refine bodyPost_ret (results_cell_row rfl _ _ aFP 31 #[Z ab a0,Z ab a0,Z ab a1,Z ab a1] (0,0) _ rfl (by (with_reducible repeat (first|refine au ?_ _|refine ag ?_|refine aa ?_ _));refine aK (cs:=#[Z ab a0,Z ab a0,Z ab a1,Z ab 0]) ?_ 3 _ rfl;(with_reducible repeat (first|refine au ?_ _|refine ag ?_|refine aa ?_ _));refine aK (cs:=#[Z ab a0,Z ab a0,Z ab 0,Z ab 0]) ?_ 2 _ rfl;(with_reducible repeat (first|refine au ?_ _|refine ag ?_|refine aa ?_ _));refine aK (cs:=#[Z ab a0,Z ab 0,Z ab 0,Z ab 0]) ?_ 1 _ rfl;(with_reducible repeat (first|refine au ?_ _|refine ag ?_|refine aa ?_ _));refine aK (cs:=#[Z ab 0,Z ab 0,Z ab 0,Z ab 0]) ?_ 0 _ rfl;(with_reducible repeat (first|refine au ?_ _|refine ag ?_|refine aa ?_ _));exact azM.out) Try.underlying31 rfl aT) rfl ?_
 exact ⟨mJ,gp⟩
end Go.Proofs.Ytmhaiihjfgfaoaa.Pr
end
section
namespace Go.Proofs.YtmhaiihjfgfaoaaW.Round
open Go.RowKit Go.Proofs.YtmhaiihjfgfaoaaW.bu Go.Proofs.YtmhaiihjfgfaoaaW.dB
section
variable {P:Program} {n l:Nat}
theorem agr {o:Oper} {a:Act} {w:ao} {K:Act→ao→Prop} {Q:Exit→Act→ao→Prop} (hd:∀ c,o.op≠.defer c) (h:o.wp P a w K Q):o.wpIn (Fence.wide.inRound l) n P a w K Q:=by
 refine ⟨fun _ _=>trivial,?_⟩
 rw [Oper.semAt_eq _ _ _ hd]
 unfold Oper.wp at h
 generalize (execOp a.eval o).run P w = r at h
 cases r with
 |ok x w' =>
  cases x with
  |value v=>exact h
  |skip=>exact h
  |defer d=>exact h
  |enter f args=>exact ⟨fun h0=>(by cases h0),CallsIn.inRound l (callsIn_wide.2 h)⟩
  |row row args=>exact ⟨fun h0=>(by cases h0),fun c cs _=>by obtain ⟨v,w2,r,s⟩:=h c cs;exact ⟨v,w2,r,stepsIn_wide.2 s⟩⟩
  |_=>exact h.elim
 |halt x w' =>
  cases x with
  |panic v=>exact h
  |_=>exact h.elim
def SE (ops:Array Oper):Bool:=ops.all fun o=>match o.op with|.defer _=>false|_=>true
theorem adx {ops:Array Oper} (h:SE ops = true) {i:Nat} {o:Oper} (ho:ops[i]? = some o):∀ c,o.op≠.defer c:=by
 intro c e
 unfold SE at h
 rw [Array.all_eq_true] at h
 obtain ⟨hi,he⟩:=Array.getElem?_eq_some_iff.1 ho
 have:=h i hi
 rw [he,e] at this
 simp at this
theorem Eu {ops:Array Oper} {Q:Exit→Act→ao→Prop} {md:Region.Mode} (hn:SE ops = true) (hQ:¬ LetsOut Q):∀ (fuel:Nat) (listed:Array Bool) (a:Act) (w:ao),
 wpAny P md ops Q fuel listed a w→wpAnyIn (Fence.wide.inRound l) n P md ops Q fuel listed a w
 |0,_,_,_,h=>h
 |fuel+1,listed,a,w,h=>by
  refine ⟨h.1,fun i hi=>?_⟩
  have h1:=h.2 i hi
  unfold wpOp at h1
  unfold wpOpIn
  cases ho:ops[i]? with
  |none =>
   rw [ho] at h1
   exact Eu hn hQ fuel _ _ _ h1
  |some o =>
   rw [ho] at h1
   dsimp only at h1 ⊢
   split at h1
   ·rename_i hw
    rw [if_pos hw]
    rcases h1 with h1|⟨_,h1⟩
    ·exact Oper.wpIn_mono (fun a w h=>Eu hn hQ fuel _ a w h) (agr (adx hn ho) h1)
    ·exact absurd h1 hQ
   ·rename_i hw
    rw [if_neg hw]
    exact ⟨fun _ _=>trivial,Eu hn hQ fuel _ _ _ h1⟩
theorem ZI {α:Type} {B:Nat} {Kp:ao→ao→Prop} {I:List α→ao→Prop} {Ix:Code→List α→ao→Prop} {xs:List α} {W:ao}:¬ LetsOut (ownPostG B Kp I Ix xs W):=fun ⟨_,_,h⟩=>h
theorem RY {id:Nat} {Q:Exit→Act→ao→Prop} (h:¬ LetsOut Q):¬ LetsOut (Exit.inBlock id Q):=fun ⟨a,w,h1⟩=>h ⟨a,w,h1⟩
theorem ZJ {K:Act→ao→Prop} {Q:Exit→Act→ao→Prop} (h:¬ LetsOut Q):¬ LetsOut (Exit.then K Q):=fun ⟨a,w,h1⟩=>h ⟨a,w,h1⟩
theorem Vy {ops:Array Oper} {Q:Exit→Act→ao→Prop} {S:ao→Prop} {ds:List Nat} {id m:Nat} {a:Act} {w:ao} (lit:Array Bool) (hd:SE ops = true) (hQ:¬ LetsOut Q) (hm:P.follows .mixedOrders = true) (hn:ops.size = m) (hl:Array.replicate m false = lit) (hS:S w.drew)
 (h:S w.drew→fD P .any ops Q S ds m lit a w.drew):(Code.region id ops true).wpIn (Fence.wide.inRound l) n P Q a w:=by
 subst hn
 subst hl
 exact wpIn_region_any hm (Eu hd hQ _ _ _ _ (EY _ _ _ _ (h hS)))
def aiL (K:Act→ao→Prop):Exit→Act→ao→Prop
 |.normal,a,w=>K a w
 |_,_,_=>False
theorem Hf {Q:Exit→Act→ao→Prop} {a:Act} {w:ao} (h:Q .normal a w):aiL (Q .normal) .normal a w:=h
theorem Fy {F:Fence} {c:Code} {Q:Exit→Act→ao→Prop} {a:Act} {w:ao} (h:c.wpIn F n P (aiL (Q .normal)) a w):c.wpIn F n P Q a w:=wpIn_mono h (fun e a w h=>by cases e <;> first|exact h|exact h.elim)
end
end Go.Proofs.YtmhaiihjfgfaoaaW.Round
end
section
namespace Go.Proofs.Ytmhaiihjfgfaoaa.Gl
open Go.RowKit Go.Shelf Go.Proofs.YtmhaiihjfgfaoaaW.bu Go.Proofs.YtmhaiihjfgfaoaaW.dB Go.Proofs.YtmhaiihjfgfaoaaW.ek Go.Proofs.Ytmhaiihjfgfaoaa.Pr Go.Proofs.YtmhaiihjfgfaoaaW.Round
attribute [local go_sem] iq iw jq jr iy
structure lK where
 nx:Int
 ny:Int
 cell:Int
 slot:Int
 slots:Int
 layers:Int
 most:Int
 bf:List Bool
 aC:List qK
structure nW where
 speed:Int
 bq:Int
 use:jK
 aV:jK
 reserve:Int
def dW (W:ao) (b:Nat) (c:Array Value) (t:TypeId):Prop:=W.heap[b]? = some (.cells c t (0,0))
theorem dW.below {W W1:ao} {b:Nat} {c:Array Value} {t:TypeId} (h:dW W b c t) (hb:Below W.heap.size W W1):dW W1 b c t:=(hb.block b (Array.getElem?_eq_some_iff.1 h).1).trans h
def yw (v:Value) (w:ao) (e:Ending) (w':ao):Prop:=e = .returned v∧Below w.heap.size w w'
def lC (W:ao) (b:Nat) (s:lK) (v:nW):Prop:=∃ A7 c7 A8 c8,dW W b #[Z ab s.nx,Z ab s.ny,Z ab s.cell,Z ab s.slot,Z ab s.slots,Z ab s.layers,Z ab s.most,.slice A7 s.bf.length c7,.slice A8 s.aC.length c8,Z ab v.speed,Z ab v.bq,Z ab v.use.f0,Z ab v.use.f1,Z ab v.aV.f0,Z ab v.aV.f1,Z ab v.reserve] 110∧s.bf.length≤c7∧Kd.C Kd.bool W A7 s.bf.length s.bf∧s.aC.length≤c8∧Kd.C Dt W A8 s.aC.length s.aC
theorem lC.below {W W1:ao} {b:Nat} {s:lK} {v:nW} (h:lC W b s v) (hb:Below W.heap.size W W1):lC W1 b s v:=by
 obtain ⟨A7,c7,A8,c8,h1,h2,h3,h4,h5⟩:=h
 exact ⟨A7,c7,A8,c8,h1.below hb,h2,Kd.bz h3 hb,h4,Kd.bz h5 hb⟩
structure Cm (s:lK):Prop where
 nx:1≤s.nx∧s.nx≤12
 ny:1≤s.ny∧s.ny≤12
 cell:100≤s.cell∧s.cell≤65536
 slot:1≤s.slot∧s.slot≤1048576
 slots:1≤s.slots∧s.slots≤16
 layers:1≤s.layers∧s.layers≤3
 most:0≤s.most∧s.most≤5000
structure Fz (v:nW):Prop where
 speed:0≤v.speed∧v.speed≤5000
 bq:1≤v.bq∧v.bq≤131072
theorem ZK {a b c d:Int} (h:a = c) (h2:b = d):Ending.returned (.tuple #[Z ab a,Z ab b]) = Ending.returned (.tuple #[Z ab c,Z ab d]):=by rw [h,h2]
theorem je {a b m n:Int} (h0:0≤a) (h1:a≤m) (h2:0≤b) (h3:b≤n):0≤a*b∧a*b≤m*n :=
 ⟨Int.mul_nonneg h0 h2,Int.le_trans (Int.mul_le_mul_of_nonneg_right h1 h2) (Int.mul_le_mul_of_nonneg_left h3 (Int.le_trans h0 h1))⟩
def iX (s:lK) (x:iA):Bool:=decide (0≤x.f0.f0) && decide (0≤x.f1.f0) && decide (x.f0.f1≤s.nx*s.cell) && decide (x.f1.f1≤s.ny*s.cell)
def uy (s:lK) (t u:Int):Bool:=decide (0≤t) && decide (u≤s.slots*s.slot)
theorem ZL (b:Nat) (s:lK) (v:nW) (x:iA) (w:ao) (hT:lC w b s v) (hS:Cm s):
 Calls Try.prog 68 #[.pointer (some ⟨b,0,none⟩),.agg #[Z ab x.f0.f0,Z ab x.f0.f1,Z ab x.f1.f0,Z ab x.f1.f1]] w (yw (.bool (iX s x)) w):=by
 obtain ⟨A7,c7,A8,c8,hB,_⟩:=hT
 have hx:=je (show 0≤s.nx by have:=hS.nx;omega) hS.nx.2 (show 0≤s.cell by have:=hS.cell;omega) hS.cell.2
 have hy:=je (show 0≤s.ny by have:=hS.ny;omega) hS.ny.2 (show 0≤s.cell by have:=hS.cell;omega) hS.cell.2
 clear hS
 have hC0:∀ o_,(w.alloc o_).cell? ⟨b,0,none⟩ = some (Z ab s.nx):=fun o_=>(ae (aa hB o_) 0).trans rfl
 have hC1:∀ o_,(w.alloc o_).cell? ⟨b,1,none⟩ = some (Z ab s.ny):=fun o_=>(ae (aa hB o_) 1).trans rfl
 have hC2:∀ o_,(w.alloc o_).cell? ⟨b,2,none⟩ = some (Z ab s.cell):=fun o_=>(ae (aa hB o_) 2).trans rfl
 by_cases q0:0≤x.f0.f0
 ·have q0_:decide (0≤x.f0.f0) = true:=decide_eq_true q0
  by_cases q1:0≤x.f1.f0
  ·have q1_:decide (0≤x.f1.f0) = true:=decide_eq_true q1
   by_cases q2:x.f0.f1≤s.nx*s.cell
   ·have q2_:decide (x.f0.f1≤s.nx*s.cell) = true:=decide_eq_true q2
    by_cases q3:x.f1.f1≤s.ny*s.cell
    ·have q3_:decide (x.f1.f1≤s.ny*s.cell) = true:=decide_eq_true q3
     have HR:Hid (iX s x = true):=Lib.hid (by unfold iX;simp only [q0_,q1_,q2_,q3_];rfl)
     go_enter Try.func68,Try.ntmps68
     go_wp2
     go_quiet (fail)
     go_wp2
     go_ret
     exact ⟨Jm,Vs⟩
    ·have q3_:decide (x.f1.f1≤s.ny*s.cell) = false:=decide_eq_false q3
     have HR:Hid (iX s x = false):=Lib.hid (by unfold iX;simp only [q0_,q1_,q2_,q3_];rfl)
     go_enter Try.func68,Try.ntmps68
     go_wp2
     go_quiet (fail)
     go_wp2
     go_ret
     exact ⟨Jm,Vs⟩
   ·have q2_:decide (x.f0.f1≤s.nx*s.cell) = false:=decide_eq_false q2
    have HR:Hid (iX s x = false):=Lib.hid (by unfold iX;simp only [q0_,q1_,q2_];rfl)
    go_enter Try.func68,Try.ntmps68
    go_wp2
    go_quiet (fail)
    go_wp2
    go_ret
    exact ⟨Jm,Vs⟩
  ·have q1_:decide (0≤x.f1.f0) = false:=decide_eq_false q1
   have HR:Hid (iX s x = false):=Lib.hid (by unfold iX;simp only [q0_,q1_];rfl)
   go_enter Try.func68,Try.ntmps68
   go_wp2
   go_quiet (fail)
   go_wp2
   go_ret
   exact ⟨Jm,Vs⟩
 ·have q0_:decide (0≤x.f0.f0) = false:=decide_eq_false q0
  have HR:Hid (iX s x = false):=Lib.hid (by unfold iX;simp only [q0_];rfl)
  go_enter Try.func68,Try.ntmps68
  go_wp2
  go_quiet (fail)
  go_wp2
  go_ret
  exact ⟨Jm,Vs⟩
theorem amg (b:Nat) (s:lK) (v:nW) (t u:Int) (w:ao) (hT:lC w b s v) (hS:Cm s):
 Calls Try.prog 69 #[.pointer (some ⟨b,0,none⟩),Z ab t,Z ab u] w (yw (.bool (uy s t u)) w):=by
 obtain ⟨A7,c7,A8,c8,hB,_⟩:=hT
 have hx:=je (show 0≤s.slots by have:=hS.slots;omega) hS.slots.2 (show 0≤s.slot by have:=hS.slot;omega) hS.slot.2
 clear hS
 have hC3:w.cell? ⟨b,3,none⟩ = some (Z ab s.slot):=(ae hB 3).trans rfl
 have hC4:w.cell? ⟨b,4,none⟩ = some (Z ab s.slots):=(ae hB 4).trans rfl
 by_cases q0:0≤t
 ·have q0_:decide (0≤t) = true:=decide_eq_true q0
  by_cases q1:u≤s.slots*s.slot
  ·have q1_:decide (u≤s.slots*s.slot) = true:=decide_eq_true q1
   have HR:Hid (uy s t u = true):=Lib.hid (by unfold uy;simp only [q0_,q1_];rfl)
   go_enter Try.func69,Try.ntmps69
   go_wp2
   go_quiet (fail)
   go_wp2
   go_ret
   exact ⟨Jm,Vs⟩
  ·have q1_:decide (u≤s.slots*s.slot) = false:=decide_eq_false q1
   have HR:Hid (uy s t u = false):=Lib.hid (by unfold uy;simp only [q0_,q1_];rfl)
   go_enter Try.func69,Try.ntmps69
   go_wp2
   go_quiet (fail)
   go_wp2
   go_ret
   exact ⟨Jm,Vs⟩
 ·have q0_:decide (0≤t) = false:=decide_eq_false q0
  have HR:Hid (uy s t u = false):=Lib.hid (by unfold uy;simp only [q0_];rfl)
  go_enter Try.func69,Try.ntmps69
  go_wp2
  go_quiet (fail)
  go_wp2
  go_ret
  exact ⟨Jm,Vs⟩
def yx (c lo:Int):Int:=if 0 < lo / c∧lo % c = 0 then lo / c - 1 else lo / c
def vC (c:Int) (a:jK) (most:Int):Int × Int:=(min (yx c a.f0) (most - 1),min (a.f1 / c) (most - 1))
theorem Qh {x c:Int} (h0:0≤x) (hc:1≤c):0≤x / c∧x / c≤x :=
 ⟨Int.ediv_nonneg h0 (by omega),Int.ediv_le_self _ h0⟩
theorem aCf {x c:Int} (hc:1≤c):0≤x % c∧x % c≤c:=by
 have h1:=Int.emod_nonneg x (show c≠0 by omega)
 have h2:=Int.emod_lt_of_pos x (show 0 < c by omega)
 omega
theorem Rw (b:Nat) (s:lK) (v:nW) (a:jK) (most:Int) (w:ao) (hT:lC w b s v) (hS:Cm s) (h0:0≤a.f0) (h1:a.f0≤1099511627776) (h2:0≤a.f1) (h3:a.f1≤1099511627776) (hm0:1≤most) (hm1:most≤12):
 Calls Try.prog 136 #[.pointer (some ⟨b,0,none⟩),.agg #[Z ab a.f0,Z ab a.f1],Z ab most] w (yw (.tuple #[Z ab (vC s.cell a most).1,Z ab (vC s.cell a most).2]) w):=by
 obtain ⟨A7,c7,A8,c8,hB,_⟩:=hT
 have hc:=hS.cell
 have hd:=Qh h0 (show 1≤s.cell by omega)
 have hd2:=Qh h2 (show 1≤s.cell by omega)
 have hr:=aCf (x:=a.f0) (show 1≤s.cell by omega)
 have hne:s.cell≠0:=by omega
 have hbq:(s.cell == 0) = false:=beq_eq_false_iff_ne.2 hne
 clear hS
 have hC2:∀ o_,(w.alloc o_).cell? ⟨b,2,none⟩ = some (Z ab s.cell):=fun o_=>(ae (aa hB o_) 2).trans rfl
 have e1:Int.tdiv a.f0 s.cell = a.f0 / s.cell:=Int.tdiv_eq_ediv_of_nonneg h0
 have e2:Int.tdiv a.f1 s.cell = a.f1 / s.cell:=Int.tdiv_eq_ediv_of_nonneg h2
 have e3:Int.tmod a.f0 s.cell = a.f0 % s.cell:=Int.tmod_eq_emod_of_nonneg h0
 have HR:Hid (vC s.cell a most = (min (yx s.cell a.f0) (most - 1),min (a.f1 / s.cell) (most - 1))):=Lib.hid rfl
 have HF:Hid (yx s.cell a.f0 = if 0 < a.f0 / s.cell∧a.f0 % s.cell = 0 then a.f0 / s.cell - 1 else a.f0 / s.cell):=Lib.hid rfl
 generalize a.f0 / s.cell = Q at*
 generalize a.f1 / s.cell = R at*
 generalize a.f0 % s.cell = M at*
 by_cases q0:0 < Q
 ·have q0_:decide (0 < Q) = true:=decide_eq_true q0
  by_cases q1:M = 0
  ·have q1_:(M == 0) = true:=beq_iff_eq.2 q1
   have HG:=Lib.hid (HF.out.trans (if_pos ⟨q0,q1⟩))
   clear q1 HF
   go_enter Try.func136,Try.ntmps136
   go_wp2
   go_quiet (fail)
   go_wp2
   go_quiet (fail)
   go_wp2
   go_quiet (fail)
   go_wp2
   all_goals (go_ret2;exact ⟨ZK (by rw [HR.out];dsimp only;rw [HG.out];omega) (by rw [HR.out];dsimp only;omega),Vs⟩)
  ·have q1_:(M == 0) = false:=beq_eq_false_iff_ne.2 q1
   have HG:=Lib.hid (HF.out.trans (if_neg (fun h=>q1 h.2)))
   clear q1 HF
   go_enter Try.func136,Try.ntmps136
   go_wp2
   go_quiet (fail)
   go_wp2
   go_quiet (fail)
   go_wp2
   go_quiet (fail)
   go_wp2
   all_goals (go_ret2;exact ⟨ZK (by rw [HR.out];dsimp only;rw [HG.out];omega) (by rw [HR.out];dsimp only;omega),Vs⟩)
 ·have q0_:decide (0 < Q) = false:=decide_eq_false q0
  have HG:=Lib.hid (HF.out.trans (if_neg (fun h=>q0 h.1)))
  clear HF
  go_enter Try.func136,Try.ntmps136
  go_wp2
  go_quiet (fail)
  go_wp2
  go_quiet (fail)
  go_wp2
  go_quiet (fail)
  go_wp2
  all_goals (go_ret2;exact ⟨ZK (by rw [HR.out];dsimp only;rw [HG.out];omega) (by rw [HR.out];dsimp only;omega),Vs⟩)
def nU (x lo hi:Int):Bool:=decide (lo≤x) && decide (x≤hi)
theorem jg {x lo hi:Int}:nU x lo hi = true↔lo≤x∧x≤hi:=by unfold nU;simp
theorem Ev (x lo hi:Int) (w:ao):Calls Try.prog 74 #[Z ab x,Z ab lo,Z ab hi] w (yw (.bool (nU x lo hi)) w) :=
 (cz.calls x lo hi (nU x lo hi) w (by
  unfold cz.f nU
  by_cases h:x ≥ lo
  ·rw [if_pos h,show decide (lo≤x) = true from decide_eq_true h];simp
  ·rw [if_neg h,show decide (lo≤x) = false from decide_eq_false h];simp)).mono fun _ _ h=>⟨h.1,h.2.below⟩
def NV (lo hi:Int):Bool:=!(decide (lo > hi) || decide (lo < -1073741824) || decide (hi > 1073741824))
theorem BC {lo hi:Int}:NV lo hi = true↔lo≤hi∧-1073741824≤lo∧hi≤1073741824:=by
 unfold NV
 simp only [Bool.not_eq_true',Bool.or_eq_false_iff,decide_eq_false_iff_not]
 omega
theorem ags (k:Nat) (lo hi:Int):lv.f (k+2) lo hi = some (if NV lo hi then 0 else 2):=by
 unfold lv.f dM.f NV
 simp only [dM.l0,pV]
 by_cases h1:hi < lo
 ·simp [h1]
  try omega
 ·by_cases h2:lo < -1073741824
  ·simp [h1,h2]
   try omega
  ·by_cases h3:1073741824 < hi
   ·simp [h1,h2,h3]
   ·have h3':hi≤1073741824:=by omega
    have h2':-1073741824≤lo:=by omega
    have h1':lo≤hi:=by omega
    simp [h1,h2,h3,an,h3',h2',h1']
def si (lo hi a b:Int):Bool:=NV lo hi && decide (a≤lo) && decide (hi≤b)
theorem ady (k:Nat) (lo hi a b:Int):cK.f (k+2) lo hi a b = some (si lo hi a b):=by
 unfold cK.f si
 rw [ags,aE]
 cases NV lo hi with
 |false=>rfl
 |true =>
  by_cases h:lo ≥ a
  ·rw [if_pos rfl,if_pos rfl,if_pos h,show decide (a≤lo) = true from decide_eq_true h];simp
  ·rw [if_pos rfl,if_pos rfl,if_neg h,show decide (a≤lo) = false from decide_eq_false h];simp
theorem SF (lo hi a b:Int) (w:ao):Calls Try.prog 77 #[.agg #[Z ab lo,Z ab hi],Z ab a,Z ab b] w (yw (.bool (si lo hi a b)) w):=cK.calls 2 _ _ _ _ _ w (ady 0 lo hi a b)
theorem agt {α:Type} {p:α→Bool} {l:List α} {k:Nat} {x:α} (hk:l[k]? = some x) (h0:(l.take k).any p = false) (hx:p x = true):l.findIdx? p = some k:=by
 have hlt:=(List.getElem?_eq_some_iff.1 hk).1
 rw [List.findIdx?_eq_some_iff_getElem]
 refine ⟨hlt,by rw [(List.getElem?_eq_some_iff.1 hk).2];exact hx,fun j hj=>?_⟩
 have:=List.any_eq_false.1 h0 l[j] (by rw [List.mem_take_iff_getElem];exact ⟨j,by omega,rfl⟩)
 simpa using this
def agu {α:Type} (p:α→Bool) (l:List α):Int:=match l.findIdx? p with|none=>-1|some i=>i
theorem aoK {α:Type} (p:α→Bool) (l:List α):(agu p l < 0∧l.any p = false)∨(0≤agu p l∧l.any p = true):=by
 unfold agu
 cases h:l.findIdx? p with
 |none =>
  refine .inl ⟨by decide,?_⟩
  rw [List.any_eq_false]
  intro x hx
  have:=List.findIdx?_eq_none_iff.1 h x hx
  simp [this]
 |some i =>
  obtain ⟨h1,h2,_⟩:=List.findIdx?_eq_some_iff_getElem.1 h
  exact .inr ⟨by dsimp only;omega,List.any_eq_true.2 ⟨_,List.getElem_mem h1,h2⟩⟩
theorem amh (gs:Nat) (lb:Array Value) (g:qK→Bool) (A:Option Addr) (c:Nat) (l:List qK) (w:ao) (hC:Kd.C Dt w A l.length l) (hc:l.length≤c)
 (egs:∀ args w,(callFunc gs args).run Try.prog w = .ok (.enter gs args) w)
 (hg:∀ x W,Below w.heap.size w W→Calls Try.prog gs (#[.agg #[Z ab x.f0.f0,Z ab x.f0.f1,Z ab x.f1.f0,Z ab x.f1.f1]]++lb) W (yw (.bool (g x)) W)):
 Calls Try.prog 121 #[.slice A l.length c,.func (.func gs) #[] lb] w (yw (Z ab (agu g l)) w):=by
 have atm:=Try.underlying40
 have oO:=Try.underlying27
 have hb:=hC.2.1
 have HI:Hid (agu g l = match l.findIdx? g with|none=>-1|some i=>(i:Int)):=Lib.hid rfl
 go_enter Try.func121,Try.ntmps121
 go_wp2
 go_loopw [8] (fun i wr=>∃ (k:Nat),k≤l.length∧i = Z ab k∧Hid ((l.take k).any g = false)∧Below w.heap.size w wr) (fun i _=>l.length - (intOf i).toNat)
 case atStart=>exact ⟨0,Nat.zero_le _,rfl,Lib.hid (by simp),Below.refl _ _⟩
 case round =>
  obtain ⟨k,hk,rfl,HA,mB⟩:=hrel
  by_cases hlt:k < l.length
  ·obtain ⟨ad,rfl,hx0,hx1,hx2,hx3⟩:=GI hC k (by omega) (by omega)
   simp only [Int.toNat_natCast] at hx0 hx1 hx2 hx3
   replace hx0:=(mB.cell (bd w _ hx0)).trans hx0
   replace hx1:=(mB.cell (bd w _ hx1)).trans hx1
   replace hx2:=(mB.cell (bd w _ hx2)).trans hx2
   replace hx3:=(mB.cell (bd w _ hx3)).trans hx3
   have hlk:l[k]? = some (bE l (k:Int)):=by simp [bE,List.getD_eq_getElem?_getD,hlt]
   have htk:l.take (k+1) = l.take k++[bE l (k:Int)]:=by rw [List.take_add_one,hlk];rfl
   generalize bE l (k:Int) = x at*
   have HT:=Lib.hid htk
   have HK:=Lib.hid hlk
   clear htk hlk
   go_wp2_with fail
   have hcon:=hg x wr mB
   (with_reducible refine hcon.mono ?_)
   clear hcon hx0 hx1 hx2 hx3
   rintro e W1 ⟨rfl,hb1⟩
   replace mB:=bI mB hb1
   clear hb1
   cases hbx:g x with
   |true =>
    have HE:=Lib.hid (HI.out.trans (by rw [agt HK.out HA.out hbx]))
    clear hbx
    go_wp2
    go_ret
    exact ⟨by rw [HE.out];rfl,mB⟩
   |false =>
    have HB:=Lib.hid hbx
    clear hbx
    go_wp2
    go_roundw
    case rel=>exact ⟨k+1,by omega,by simp,Lib.hid (by rw [HT.out,List.any_append,HA.out,List.any_cons,HB.out];rfl),mB⟩
    case measure=>simp [intOf];omega
  ·obtain rfl:k = l.length:=by omega
   rw [List.take_length] at HA
   have hn:l.findIdx? g = none:=by
    rw [List.findIdx?_eq_none_iff]
    intro x hx
    have:=List.any_eq_false.1 HA.out x hx
    simpa using this
   have HE:=Lib.hid (HI.out.trans (by rw [hn]))
   clear hn
   go_wp2
   go_ret
   exact ⟨by rw [HE.out];rfl,mB⟩
theorem agv (gs:Nat) (lb:Array Value) (g:qK→Bool) (A:Option Addr) (c:Nat) (l:List qK) (w:ao) (hC:Kd.C Dt w A l.length l) (hc:l.length≤c)
 (egs:∀ args w,(callFunc gs args).run Try.prog w = .ok (.enter gs args) w)
 (hg:∀ x W,Below w.heap.size w W→Calls Try.prog gs (#[.agg #[Z ab x.f0.f0,Z ab x.f0.f1,Z ab x.f1.f0,Z ab x.f1.f1]]++lb) W (yw (.bool (g x)) W)):
 Calls Try.prog 75 #[.slice A l.length c,.func (.func gs) #[] lb] w (yw (.bool (l.any g)) w):=by
 have hcon:=amh gs lb g A c l w hC hc egs hg
 clear hg egs
 go_enter Try.func75,Try.ntmps75
 go_wp2_with fail
 (with_reducible refine hcon.mono ?_)
 clear hcon
 rintro e W1 ⟨rfl,mB⟩
 rcases aoK g l with ⟨h1,h2⟩|⟨h1,h2⟩
 ·have HA:=Lib.hid h2
  have hd:decide (0≤agu g l) = false:=decide_eq_false (by omega)
  clear h1 h2
  go_wp2
  go_ret
  exact ⟨by rw [HA.out];rfl,mB⟩
 ·have HA:=Lib.hid h2
  have hd:decide (0≤agu g l) = true:=decide_eq_true (by omega)
  clear h1 h2
  go_wp2
  go_ret
  exact ⟨by rw [HA.out];rfl,mB⟩
def XB (most:Int) (c:qK):Bool:=!si c.f0.f0 c.f0.f1 (-most) most || !si c.f1.f0 c.f1.f1 (-most) most
theorem atA (g1:Nat) (s:lK) (A7 A8:Option Addr) (c7 c8:Nat) (c:qK) (w:ao) (hm0:0≤s.most) (hm1:s.most≤5000) (hB:dW w g1 #[Z ab s.nx,Z ab s.ny,Z ab s.cell,Z ab s.slot,Z ab s.slots,Z ab s.layers,Z ab s.most,.slice A7 s.bf.length c7,.slice A8 s.aC.length c8] 25):
 Calls Try.prog 76 #[.agg #[Z ab c.f0.f0,Z ab c.f0.f1,Z ab c.f1.f0,Z ab c.f1.f1],.pointer (some ⟨g1,0,none⟩)] w (yw (.bool (XB s.most c)) w):=by
 have atm:=Try.underlying40
 have oO:=Try.underlying27
 have HB:Hid (XB s.most c = (!si c.f0.f0 c.f0.f1 (-s.most) s.most || !si c.f1.f0 c.f1.f1 (-s.most) s.most)):=Lib.hid rfl
 have c6:∀ o_,(w.alloc o_).cell? ⟨g1,6,none⟩ = some (Z ab s.most):=fun o_=>(ae (aa hB o_) 6).trans rfl
 go_enter Try.func76,Try.ntmps76
 go_wp2_with fail
 clear c6
 have m1:=hB
 clear hB
 have aWw:=bO m1
 have m2:dW (w.alloc (.cells #[Z ab c.f0.f0,Z ab c.f0.f1,Z ab c.f1.f0,Z ab c.f1.f1] 40)) (w.heap.size) #[Z ab c.f0.f0,Z ab c.f0.f1,Z ab c.f1.f0,Z ab c.f1.f1] 40:=(by have h_:=eB w (.cells #[Z ab c.f0.f0,Z ab c.f0.f1,Z ab c.f1.f0,Z ab c.f1.f1] 40);first|exact h_|(simp only [World.size_alloc] at h_;exact h_))
 replace m1:dW (w.alloc (.cells #[Z ab c.f0.f0,Z ab c.f0.f1,Z ab c.f1.f0,Z ab c.f1.f1] 40)) g1 #[Z ab s.nx,Z ab s.ny,Z ab s.cell,Z ab s.slot,Z ab s.slots,Z ab s.layers,Z ab s.most,.slice A7 s.bf.length c7,.slice A8 s.aC.length c8] 25:=(aa m1 _)
 have mB:Below w.heap.size w (w.alloc (.cells #[Z ab c.f0.f0,Z ab c.f0.f1,Z ab c.f1.f0,Z ab c.f1.f1] 40)):=(aH (Below.refl w.heap.size w) _)
 have kZ:w.heap.size≤w.heap.size:=Nat.le_refl _
 generalize qQ:(w.alloc (.cells #[Z ab c.f0.f0,Z ab c.f0.f1,Z ab c.f1.f0,Z ab c.f1.f1] 40)) = W1 at m1 m2 mB ⊢
 clear qQ
 generalize hg2:w.heap.size = g2 at m2 ⊢
 have aCg:g1≠g2:=by omega
 have aWx:g2≠g1:=aCg.symm
 have hG2:w.heap.size≤g2:=by omega
 clear kZ aWw
 try clear hg2
 have sD:w.heap.size≤W1.heap.size:=mB.size
 have hcon:=SF c.f0.f0 c.f0.f1 (-s.most) s.most W1
 (with_reducible refine hcon.mono ?_)
 clear hcon
 rintro e W2 ⟨rfl,hb⟩
 replace m1:=ah m1 hb
 replace m2:=ah m2 hb
 replace mB:=bI mB hb
 clear hb
 have vI:w.heap.size≤W2.heap.size:=mB.size
 cases h0:si c.f0.f0 c.f0.f1 (-s.most) s.most with
 |false =>
  have HR:=Lib.hid (HB.out.trans (by rw [h0];rfl:_ = true))
  clear h0 HB
  go_wp2
  go_ret
  exact ⟨Jm,mB⟩
 |true =>
  have H0:=Lib.hid h0
  clear h0
  obtain ⟨aCh,aCi,aCj,aCk⟩:=rY m2
  have c6:=(ae m1 6).trans rfl
  go_wp2_with fail
  clear aCh aCi aCj aCk c6
  have hcon:=SF c.f1.f0 c.f1.f1 (-s.most) s.most W2
  (with_reducible refine hcon.mono ?_)
  clear hcon
  rintro e W3 ⟨rfl,hb⟩
  replace m1:=ah m1 hb
  replace m2:=ah m2 hb
  replace mB:=bI mB hb
  clear hb
  have FB:w.heap.size≤W3.heap.size:=mB.size
  cases h1:si c.f1.f0 c.f1.f1 (-s.most) s.most with
  |false =>
   have HR:=Lib.hid (HB.out.trans (by rw [H0.out,h1];rfl:_ = true))
   clear h1 HB
   go_wp2
   go_ret
   exact ⟨Jm,mB⟩
  |true =>
   have HR:=Lib.hid (HB.out.trans (by rw [H0.out,h1];rfl:_ = false))
   clear h1 HB
   go_wp2
   go_ret
   exact ⟨Jm,mB⟩
def adz (s:lK):Bool:=nU s.nx 1 12 && nU s.ny 1 12 && nU s.cell 100 65536 && nU s.slot 1 1048576 && nU s.slots 1 16 && nU s.layers 1 3 && nU s.most 0 5000 && decide ((s.bf.length:Int) = s.nx*s.ny) && decide ((s.aC.length:Int) = s.slots*s.layers*(s.nx*s.ny)) && !s.aC.any (XB s.most)
def Az (s:lK):Int:=if adz s then 0 else 2
theorem aiM (s:lK) (A7 A8:Option Addr) (c7 c8:Nat) (w:ao) (h7:s.bf.length≤c7) (XC:Kd.C Kd.bool w A7 s.bf.length s.bf) (h8:s.aC.length≤c8) (Rx:Kd.C Dt w A8 s.aC.length s.aC):
 Calls Try.prog 25 #[.agg #[Z ab s.nx,Z ab s.ny,Z ab s.cell,Z ab s.slot,Z ab s.slots,Z ab s.layers,Z ab s.most,.slice A7 s.bf.length c7,.slice A8 s.aC.length c8]] w (yw (Z ab (Az s)) w):=by
 have xS:=Try.underlying25
 have hb7:=XC.2.1
 have hb8:=Rx.2.1
 have HE:Hid (Az s = if adz s then 0 else 2):=Lib.hid rfl
 have HB:Hid (adz s = (nU s.nx 1 12 && nU s.ny 1 12 && nU s.cell 100 65536 && nU s.slot 1 1048576 && nU s.slots 1 16 && nU s.layers 1 3 && nU s.most 0 5000 && decide ((s.bf.length:Int) = s.nx*s.ny) && decide ((s.aC.length:Int) = s.slots*s.layers*(s.nx*s.ny)) && !s.aC.any (XB s.most))):=Lib.hid rfl
 go_enter Try.func25,Try.ntmps25
 go_wp2_with fail
 have m1:dW (w.alloc (.cells #[Z ab s.nx,Z ab s.ny,Z ab s.cell,Z ab s.slot,Z ab s.slots,Z ab s.layers,Z ab s.most,.slice A7 s.bf.length c7,.slice A8 s.aC.length c8] 25)) (w.heap.size) #[Z ab s.nx,Z ab s.ny,Z ab s.cell,Z ab s.slot,Z ab s.slots,Z ab s.layers,Z ab s.most,.slice A7 s.bf.length c7,.slice A8 s.aC.length c8] 25:=Zh
 have mB:Below w.heap.size w (w.alloc (.cells #[Z ab s.nx,Z ab s.ny,Z ab s.cell,Z ab s.slot,Z ab s.slots,Z ab s.layers,Z ab s.most,.slice A7 s.bf.length c7,.slice A8 s.aC.length c8] 25)):=(aH (Below.refl w.heap.size w) _)
 have kZ:w.heap.size≤w.heap.size:=Nat.le_refl _
 generalize qQ:(w.alloc (.cells #[Z ab s.nx,Z ab s.ny,Z ab s.cell,Z ab s.slot,Z ab s.slots,Z ab s.layers,Z ab s.most,.slice A7 s.bf.length c7,.slice A8 s.aC.length c8] 25)) = W0 at m1 mB ⊢
 clear qQ
 generalize hg1:w.heap.size = g1 at m1 ⊢
 have hG1:w.heap.size≤g1:=by omega
 clear kZ
 try clear hg1
 have Jc:w.heap.size≤W0.heap.size:=mB.size
 have hcon:=Ev s.nx 1 12 W0
 (with_reducible refine hcon.mono ?_)
 clear hcon
 rintro e W1 ⟨rfl,hb⟩
 replace m1:=ah m1 hb
 replace mB:=bI mB hb
 clear hb
 have sD:w.heap.size≤W1.heap.size:=mB.size
 cases h_:nU s.nx 1 12 with
 |false =>
  have HZ:Hid (Az s = 2):=Lib.hid (by rw [HE.out,HB.out,h_];simp)
  clear h_ HE HB
  go_wp2
  go_ret
  exact ⟨qi,mB⟩
 |true =>
  have b0:=jg.1 h_
  have H0:=Lib.hid h_
  clear h_
  obtain ⟨MF,MG,MH,MI,MJ,MK,ML,MM,MN⟩:=Ay m1
  go_wp2_with fail
  clear MF MG MH MI MJ MK ML MM MN
  have hcon:=Ev s.ny 1 12 W1
  (with_reducible refine hcon.mono ?_)
  clear hcon
  rintro e W2 ⟨rfl,hb⟩
  replace m1:=ah m1 hb
  replace mB:=bI mB hb
  clear hb
  have vI:w.heap.size≤W2.heap.size:=mB.size
  cases h_:nU s.ny 1 12 with
  |false =>
   have HZ:Hid (Az s = 2):=Lib.hid (by rw [HE.out,HB.out,H0.out,h_];simp)
   clear h_ HE HB
   go_wp2
   go_ret
   exact ⟨qi,mB⟩
  |true =>
   have b1:=jg.1 h_
   have H1:=Lib.hid h_
   clear h_
   obtain ⟨MF,MG,MH,MI,MJ,MK,ML,MM,MN⟩:=Ay m1
   go_wp2_with fail
   clear MF MG MH MI MJ MK ML MM MN
   have hcon:=Ev s.cell 100 65536 W2
   (with_reducible refine hcon.mono ?_)
   clear hcon
   rintro e W3 ⟨rfl,hb⟩
   replace m1:=ah m1 hb
   replace mB:=bI mB hb
   clear hb
   have FB:w.heap.size≤W3.heap.size:=mB.size
   cases h_:nU s.cell 100 65536 with
   |false =>
    have HZ:Hid (Az s = 2):=Lib.hid (by rw [HE.out,HB.out,H0.out,H1.out,h_];simp)
    clear h_ HE HB
    go_wp2
    go_ret
    exact ⟨qi,mB⟩
   |true =>
    have b2:=jg.1 h_
    have H2:=Lib.hid h_
    clear h_
    obtain ⟨MF,MG,MH,MI,MJ,MK,ML,MM,MN⟩:=Ay m1
    go_wp2_with fail
    clear MF MG MH MI MJ MK ML MM MN
    have hcon:=Ev s.slot 1 1048576 W3
    (with_reducible refine hcon.mono ?_)
    clear hcon
    rintro e W4 ⟨rfl,hb⟩
    replace m1:=ah m1 hb
    replace mB:=bI mB hb
    clear hb
    have Vz:w.heap.size≤W4.heap.size:=mB.size
    cases h_:nU s.slot 1 1048576 with
    |false =>
     have HZ:Hid (Az s = 2):=Lib.hid (by rw [HE.out,HB.out,H0.out,H1.out,H2.out,h_];simp)
     clear h_ HE HB
     go_wp2
     go_ret
     exact ⟨qi,mB⟩
    |true =>
     have b3:=jg.1 h_
     have H3:=Lib.hid h_
     clear h_
     obtain ⟨MF,MG,MH,MI,MJ,MK,ML,MM,MN⟩:=Ay m1
     go_wp2_with fail
     clear MF MG MH MI MJ MK ML MM MN
     have hcon:=Ev s.slots 1 16 W4
     (with_reducible refine hcon.mono ?_)
     clear hcon
     rintro e W5 ⟨rfl,hb⟩
     replace m1:=ah m1 hb
     replace mB:=bI mB hb
     clear hb
     have VA:w.heap.size≤W5.heap.size:=mB.size
     cases h_:nU s.slots 1 16 with
     |false =>
      have HZ:Hid (Az s = 2):=Lib.hid (by rw [HE.out,HB.out,H0.out,H1.out,H2.out,H3.out,h_];simp)
      clear h_ HE HB
      go_wp2
      go_ret
      exact ⟨qi,mB⟩
     |true =>
      have b4:=jg.1 h_
      have H4:=Lib.hid h_
      clear h_
      obtain ⟨MF,MG,MH,MI,MJ,MK,ML,MM,MN⟩:=Ay m1
      go_wp2_with fail
      clear MF MG MH MI MJ MK ML MM MN
      have hcon:=Ev s.layers 1 3 W5
      (with_reducible refine hcon.mono ?_)
      clear hcon
      rintro e W6 ⟨rfl,hb⟩
      replace m1:=ah m1 hb
      replace mB:=bI mB hb
      clear hb
      have azN:w.heap.size≤W6.heap.size:=mB.size
      cases h_:nU s.layers 1 3 with
      |false =>
       have HZ:Hid (Az s = 2):=Lib.hid (by rw [HE.out,HB.out,H0.out,H1.out,H2.out,H3.out,H4.out,h_];simp)
       clear h_ HE HB
       go_wp2
       go_ret
       exact ⟨qi,mB⟩
      |true =>
       have b5:=jg.1 h_
       have H5:=Lib.hid h_
       clear h_
       obtain ⟨MF,MG,MH,MI,MJ,MK,ML,MM,MN⟩:=Ay m1
       go_wp2_with fail
       clear MF MG MH MI MJ MK ML MM MN
       have hcon:=Ev s.most 0 5000 W6
       (with_reducible refine hcon.mono ?_)
       clear hcon
       rintro e W7 ⟨rfl,hb⟩
       replace m1:=ah m1 hb
       replace mB:=bI mB hb
       clear hb
       have aiN:w.heap.size≤W7.heap.size:=mB.size
       cases h_:nU s.most 0 5000 with
       |false =>
        have HZ:Hid (Az s = 2):=Lib.hid (by rw [HE.out,HB.out,H0.out,H1.out,H2.out,H3.out,H4.out,H5.out,h_];simp)
        clear h_ HE HB
        go_wp2
        go_ret
        exact ⟨qi,mB⟩
       |true =>
        have b6:=jg.1 h_
        have H6:=Lib.hid h_
        clear h_
        have p1:=je (show 0≤s.nx by omega) b0.2 (show 0≤s.ny by omega) b1.2
        have p2:=je (show 0≤s.slots by omega) b4.2 (show 0≤s.layers by omega) b5.2
        have p3:=je p2.1 p2.2 p1.1 p1.2
        have e1:an (s.nx*s.ny) = s.nx*s.ny:=by unfold an;omega
        have HN:=Lib.hid e1
        try rw [e1]
        clear e1
        by_cases q7:(s.bf.length:Int) = s.nx*s.ny
        case neg =>
         have h_:decide ((s.bf.length:Int) = s.nx*s.ny) = false:=decide_eq_false q7
         have e_:((s.bf.length:Int) == s.nx*s.ny) = false:=beq_eq_false_iff_ne.2 q7
         have e2_:((s.bf.length:Int) != s.nx*s.ny) = true:=by rw [bne,e_];rfl
         clear q7
         obtain ⟨MF,MG,MH,MI,MJ,MK,ML,MM,MN⟩:=Ay m1
         have HZ:Hid (Az s = 2):=Lib.hid (by rw [HE.out,HB.out,H0.out,H1.out,H2.out,H3.out,H4.out,H5.out,H6.out,h_];simp)
         clear h_ HE HB
         go_wp2
         go_ret
         exact ⟨qi,mB⟩
        case pos =>
         have h_:decide ((s.bf.length:Int) = s.nx*s.ny) = true:=decide_eq_true q7
         have H7:=Lib.hid h_
         have f7:((s.bf.length:Int) == s.nx*s.ny) = true:=beq_iff_eq.2 q7
         have g7:((s.bf.length:Int) != s.nx*s.ny) = false:=by rw [bne,f7];rfl
         clear h_ q7
         by_cases q8:(s.aC.length:Int) = s.slots*s.layers*(s.nx*s.ny)
         case neg =>
          have h_:decide ((s.aC.length:Int) = s.slots*s.layers*(s.nx*s.ny)) = false:=decide_eq_false q8
          have e_:((s.aC.length:Int) == s.slots*s.layers*(s.nx*s.ny)) = false:=beq_eq_false_iff_ne.2 q8
          have e2_:((s.aC.length:Int) != s.slots*s.layers*(s.nx*s.ny)) = true:=by rw [bne,e_];rfl
          clear q8
          obtain ⟨MF,MG,MH,MI,MJ,MK,ML,MM,MN⟩:=Ay m1
          have HZ:Hid (Az s = 2):=Lib.hid (by rw [HE.out,HB.out,H0.out,H1.out,H2.out,H3.out,H4.out,H5.out,H6.out,H7.out,h_];simp)
          clear h_ HE HB
          go_wp2
          go_ret
          exact ⟨qi,mB⟩
         case pos =>
          have h_:decide ((s.aC.length:Int) = s.slots*s.layers*(s.nx*s.ny)) = true:=decide_eq_true q8
          have H8:=Lib.hid h_
          have f8:((s.aC.length:Int) == s.slots*s.layers*(s.nx*s.ny)) = true:=beq_iff_eq.2 q8
          have g8:((s.aC.length:Int) != s.slots*s.layers*(s.nx*s.ny)) = false:=by rw [bne,f8];rfl
          clear h_ q8
          obtain ⟨MF,MG,MH,MI,MJ,MK,ML,MM,MN⟩:=Ay m1
          go_wp2_with fail
          clear MF MG MH MI MJ MK ML MM MN
          have hcon:=agv 76 #[.pointer (some ⟨g1,0,none⟩)] (XB s.most) A8 c8 s.aC W7 (Kd.bz Rx mB) h8 (enters_of Try.func76 aT rfl) (fun x W hW=>atA g1 s A7 A8 c7 c8 x W b6.1 b6.2 (ah m1 hW))
          (with_reducible refine hcon.mono ?_)
          clear hcon
          rintro e W8 ⟨rfl,hb⟩
          replace m1:=ah m1 hb
          replace mB:=bI mB hb
          clear hb
          have azO:w.heap.size≤W8.heap.size:=mB.size
          cases h_:s.aC.any (XB s.most) with
          |true =>
           have HZ:Hid (Az s = 2):=Lib.hid (by rw [HE.out,HB.out,H0.out,H1.out,H2.out,H3.out,H4.out,H5.out,H6.out,H7.out,H8.out,h_];simp)
           clear h_ HE HB
           go_wp2
           go_ret
           exact ⟨qi,mB⟩
          |false =>
           have HZ:Hid (Az s = 0):=Lib.hid (by rw [HE.out,HB.out,H0.out,H1.out,H2.out,H3.out,H4.out,H5.out,H6.out,H7.out,H8.out,h_];simp)
           clear h_ HE HB
           go_wp2
           go_ret
           exact ⟨qi,mB⟩
def Mi (x:Int):Int:=x / 1000000
def upM (x:Int):Int:=-((-x) / 1000000)
def qR (bq:Int) (a:jK) (speed:Int) (u:jK):jK:=⟨a.f0+Mi ((speed+1000*u.f0)*bq),a.f1+upM ((speed+1000*u.f1)*bq)⟩
theorem rP {a b m n:Int} (h0:-m≤a) (h1:a≤m) (h2:0≤b) (h3:b≤n) (hm:0≤m):-(m*n)≤a*b∧a*b≤m*n:=by
 have k1:=Int.mul_le_mul_of_nonneg_right h1 h2
 have k2:=Int.mul_le_mul_of_nonneg_left h3 hm
 have k3:=Int.mul_le_mul_of_nonneg_right h0 h2
 rw [Int.neg_mul] at k3
 omega
theorem tdm (X:Int):X = 1000000*Int.tdiv X 1000000+Int.tmod X 1000000∧(0≤X→0≤Int.tmod X 1000000∧Int.tmod X 1000000 < 1000000)∧(X < 0→-1000000 < Int.tmod X 1000000∧Int.tmod X 1000000≤0):=by
 refine ⟨(Int.mul_tdiv_add_tmod X 1000000).symm,fun h=>?_,fun h=>?_⟩
 ·rw [Int.tmod_eq_emod_of_nonneg h]
  omega
 ·have e:X = -(-X):=by omega
  rw [e,Int.neg_tmod,Int.tmod_eq_emod_of_nonneg (show 0≤-X by omega)]
  omega
theorem aoL {a b c d:Int} (h:a = c) (h2:b = d):Ending.returned (.agg #[Z ab a,Z ab b]) = Ending.returned (.agg #[Z ab c,Z ab d]):=by rw [h,h2]
theorem Yh (b:Nat) (s:lK) (v:nW) (a:jK) (speed:Int) (u:jK) (w:ao) (hT:lC w b s v) (hV:Fz v) (ha0:-1099511627776≤a.f0∧a.f0≤1099511627776) (ha1:-1099511627776≤a.f1∧a.f1≤1099511627776) (hs0:-5000000≤speed∧speed≤5000000) (hu0:-5000≤u.f0∧u.f0≤5000) (hu1:-5000≤u.f1∧u.f1≤5000):
 Calls Try.prog 131 #[.pointer (some ⟨b,0,none⟩),.agg #[Z ab a.f0,Z ab a.f1],Z ab speed,.agg #[Z ab u.f0,Z ab u.f1]] w (yw (.agg #[Z ab (qR v.bq a speed u).f0,Z ab (qR v.bq a speed u).f1]) w):=by
 have oO:=Try.underlying27
 obtain ⟨A7,c7,A8,c8,hB,_⟩:=hT
 have hd:=hV.bq
 have m0:=rP (a:=speed+1000*u.f0) (b:=v.bq) (m:=10000000) (n:=131072) (by omega) (by omega) (by omega) (by omega) (by omega)
 have m1:=rP (a:=speed+1000*u.f1) (b:=v.bq) (m:=10000000) (n:=131072) (by omega) (by omega) (by omega) (by omega) (by omega)
 clear hV
 have HR:Hid (qR v.bq a speed u = ⟨a.f0+Mi ((speed+1000*u.f0)*v.bq),a.f1+upM ((speed+1000*u.f1)*v.bq)⟩):=Lib.hid rfl
 go_enter Try.func131,Try.ntmps131
 go_wp2_with fail
 have mT:=hB
 clear hB
 have yz:=bO mT
 have m5:dW (((w.alloc (.cells #[Z ab a.f0,Z ab a.f1] 27)).alloc (.cells #[Z ab u.f0,Z ab u.f1] 27)).alloc (.cells #[Z ab 0,Z ab 0] 27)) (w.heap.size) #[Z ab a.f0,Z ab a.f1] 27:=(aa (aa aFa _) _)
 have m7:dW (((w.alloc (.cells #[Z ab a.f0,Z ab a.f1] 27)).alloc (.cells #[Z ab u.f0,Z ab u.f1] 27)).alloc (.cells #[Z ab 0,Z ab 0] 27)) (w.heap.size+1) #[Z ab u.f0,Z ab u.f1] 27:=(aa (by have h_:=eB (w.alloc (.cells #[Z ab a.f0,Z ab a.f1] 27)) (.cells #[Z ab u.f0,Z ab u.f1] 27);first|exact h_|(simp only [World.size_alloc] at h_;exact h_)) _)
 have m8:dW (((w.alloc (.cells #[Z ab a.f0,Z ab a.f1] 27)).alloc (.cells #[Z ab u.f0,Z ab u.f1] 27)).alloc (.cells #[Z ab 0,Z ab 0] 27)) (w.heap.size+1+1) #[Z ab 0,Z ab 0] 27:=(by have h_:=eB ((w.alloc (.cells #[Z ab a.f0,Z ab a.f1] 27)).alloc (.cells #[Z ab u.f0,Z ab u.f1] 27)) (.cells #[Z ab 0,Z ab 0] 27);first|exact h_|(simp only [World.size_alloc] at h_;exact h_))
 replace mT:dW (((w.alloc (.cells #[Z ab a.f0,Z ab a.f1] 27)).alloc (.cells #[Z ab u.f0,Z ab u.f1] 27)).alloc (.cells #[Z ab 0,Z ab 0] 27)) b #[Z ab s.nx,Z ab s.ny,Z ab s.cell,Z ab s.slot,Z ab s.slots,Z ab s.layers,Z ab s.most,.slice A7 s.bf.length c7,.slice A8 s.aC.length c8,Z ab v.speed,Z ab v.bq,Z ab v.use.f0,Z ab v.use.f1,Z ab v.aV.f0,Z ab v.aV.f1,Z ab v.reserve] 110:=(aa (aa (aa mT _) _) _)
 have mB:Below w.heap.size w (((w.alloc (.cells #[Z ab a.f0,Z ab a.f1] 27)).alloc (.cells #[Z ab u.f0,Z ab u.f1] 27)).alloc (.cells #[Z ab 0,Z ab 0] 27)):=(aH (aH (aH (Below.refl w.heap.size w) _) _) _)
 have kZ:w.heap.size≤w.heap.size:=Nat.le_refl _
 generalize qQ:(((w.alloc (.cells #[Z ab a.f0,Z ab a.f1] 27)).alloc (.cells #[Z ab u.f0,Z ab u.f1] 27)).alloc (.cells #[Z ab 0,Z ab 0] 27)) = W1 at mT m5 m7 m8 mB ⊢
 clear qQ
 generalize hg5:w.heap.size = g5 at m5 m7 m8 ⊢
 have ZM:b≠g5:=by omega
 have aoM:g5≠b:=ZM.symm
 have hG5:w.heap.size≤g5:=by omega
 generalize hg7:g5+1 = g7 at m7 m8 ⊢
 have Qi:b≠g7:=by omega
 have VB:g5≠g7:=by omega
 have agw:g7≠b:=Qi.symm
 have aoO:g7≠g5:=VB.symm
 have hG7:w.heap.size≤g7:=by omega
 generalize hg8:g7+1 = g8 at m8 ⊢
 have ZN:b≠g8:=by omega
 have agx:g5≠g8:=by omega
 have Cn:g7≠g8:=by omega
 have aoP:g8≠b:=ZN.symm
 have aCm:g8≠g5:=agx.symm
 have Qj:g8≠g7:=Cn.symm
 have ZO:w.heap.size≤g8:=by omega
 clear kZ yz
 try clear hg8
 try clear hg7
 try clear hg5
 have sD:w.heap.size≤W1.heap.size:=mB.size
 replace mT:=ag mT
 replace m5:=ag m5
 replace m7:=ag m7
 replace m8:=ag m8
 replace mB:=bF mB
 have aFQ:an (1000*u.f0) = 1000*u.f0:=by unfold an;omega
 have aFR:an (speed+1000*u.f0) = speed+1000*u.f0:=by unfold an;omega
 have aFS:an ((speed+1000*u.f0)*v.bq) = (speed+1000*u.f0)*v.bq:=by unfold an;omega
 have aFT:an (1000*u.f1) = 1000*u.f1:=by unfold an;omega
 have aFU:an (speed+1000*u.f1) = speed+1000*u.f1:=by unfold an;omega
 have aFV:an ((speed+1000*u.f1)*v.bq) = (speed+1000*u.f1)*v.bq:=by unfold an;omega
 refine jV (n:=25) (S:=fun w'=>w'.cell? ⟨g7,0,none⟩ = some (Z ab u.f0)∧w'.cell? ⟨g7,1,none⟩ = some (Z ab u.f1)∧w'.cell? ⟨g5,0,none⟩ = some (Z ab a.f0)∧w'.cell? ⟨g5,1,none⟩ = some (Z ab a.f1)∧w'.cell? ⟨b,10,none⟩ = some (Z ab v.bq)) (ds:=[24]) #[al,al,al,al,al,al,al,al,al,al,al,al,al,al,al,al,al,al,al,al,al,al,al,al,al] aT rfl rfl ⟨((ae m7 0).trans rfl),((ae m7 1).trans rfl),((ae m5 0).trans rfl),((ae m5 1).trans rfl),((ae mT 10).trans rfl)⟩ (fun hHeld=>?_)
 generalize hWd:World.drew _ = Wx at mB mT m5 m7 m8 hHeld ⊢
 clear hWd
 refine dR (i:=0) (N:=some 12) aT ?_
 refine dR (i:=1) (N:=some 13) aT ?_
 refine dR (i:=5) (N:=some 17) aT ?_
 refine dR (i:=6) (N:=some 18) aT ?_
 refine dR (i:=7) (N:=some 19) aT ?_
 refine dR (i:=8) (N:=some 20) aT ?_
 refine dR (i:=11) (N:=some 23) aT ?_
 refine dR (i:=12) (N:=some 24) aT ?_
 refine dR (i:=16) (N:=some 28) aT ?_
 refine dR (i:=17) (N:=some 29) aT ?_
 refine dR (i:=18) (N:=some 30) aT ?_
 refine dR (i:=19) (N:=some 31) aT ?_
 refine iT (i:=2) (N:=some 14) aT hHeld ?_
 refine dR (i:=3) (N:=some 15) aT ?_
 refine dR (i:=4) (N:=some 16) aT ?_
 refine iT (i:=9) (N:=some 21) aT hHeld ?_
 refine dR (i:=10) (N:=some 22) aT ?_
 refine iT (i:=13) (N:=some 25) aT hHeld ?_
 refine dR (i:=14) (N:=some 26) aT ?_
 refine dR (i:=15) (N:=some 27) aT ?_
 refine iT (i:=20) (N:=some 32) aT hHeld ?_
 refine dR (i:=21) (N:=some 33) aT ?_
 refine dR (i:=22) (N:=some 34) aT ?_
 refine iW (i:=23) (N:=some 9) #[ac,ac,ac,ac,ac,ac,ac,ac,ac,ac,ac,ac,ac,ac,ac,ac,ac,ac,ac,ac,ac,ac,ac,ac,al] rfl rfl aT (by decide) (fun K hK=>?_)
 refine GG (w1:=?_) (v:=?_) (by rfl) rfl ?_ ?_
 rotate_left 2
 ·go_simp
  constructor
  ·rfl
  ·rfl
 refine hK.out _ _ ⟨((ae (aa m7 (.cells #[Z ab 0,Z ab 0] 27)) 0).trans rfl),((ae (aa m7 (.cells #[Z ab 0,Z ab 0] 27)) 1).trans rfl),((ae (aa m5 (.cells #[Z ab 0,Z ab 0] 27)) 0).trans rfl),((ae (aa m5 (.cells #[Z ab 0,Z ab 0] 27)) 1).trans rfl),((ae (aa mT (.cells #[Z ab 0,Z ab 0] 27)) 10).trans rfl)⟩ (fun hHeld=>?_)
 clear hK K
 refine dQ aFb ?_
 refine Mf (i:=24) (N:=none) #[ac,ac,ac,ac,ac,ac,ac,ac,ac,ac,ac,ac,ac,ac,ac,ac,ac,ac,ac,ac,ac,ac,ac,ac,ac] rfl rfl aT (by decide) (fun K hK=>?_)
 have PR:=eB Wx (.cells #[Z ab 0,Z ab 0] 27)
 have XD:=bg PR 0
 have XE:=bg PR 1
 have RZ:=(ae PR 0).trans rfl
 have XF:=(ae PR 1).trans rfl
 refine vF (w1:=?_) (by rfl) rfl ?_ ?_
 rotate_left
 ·go_simp
  rfl
 clear PR XD XE RZ XF
 refine hK.out _ _ ?_
 clear hK K
 refine mi aT ?_
 clear aFQ aFR aFS
 clear aFT aFU aFV
 have adA:w.heap.size≤Wx.heap.size:=mB.size
 have yz:=bO mT
 have Qk:=bO m5
 have VC:=bO m7
 have ZP:=bO m8
 have m9:dW (Wx.alloc (.cells #[Z ab ((speed+1000*u.f0)*v.bq),Z ab ((speed+1000*u.f1)*v.bq)] 27)) (Wx.heap.size) #[Z ab ((speed+1000*u.f0)*v.bq),Z ab ((speed+1000*u.f1)*v.bq)] 27:=(by have h_:=eB Wx (.cells #[Z ab ((speed+1000*u.f0)*v.bq),Z ab ((speed+1000*u.f1)*v.bq)] 27);first|exact h_|(simp only [World.size_alloc] at h_;exact h_))
 replace mT:dW (Wx.alloc (.cells #[Z ab ((speed+1000*u.f0)*v.bq),Z ab ((speed+1000*u.f1)*v.bq)] 27)) b #[Z ab s.nx,Z ab s.ny,Z ab s.cell,Z ab s.slot,Z ab s.slots,Z ab s.layers,Z ab s.most,.slice A7 s.bf.length c7,.slice A8 s.aC.length c8,Z ab v.speed,Z ab v.bq,Z ab v.use.f0,Z ab v.use.f1,Z ab v.aV.f0,Z ab v.aV.f1,Z ab v.reserve] 110:=(aa mT _)
 replace m5:dW (Wx.alloc (.cells #[Z ab ((speed+1000*u.f0)*v.bq),Z ab ((speed+1000*u.f1)*v.bq)] 27)) g5 #[Z ab a.f0,Z ab a.f1] 27:=(aa m5 _)
 replace m7:dW (Wx.alloc (.cells #[Z ab ((speed+1000*u.f0)*v.bq),Z ab ((speed+1000*u.f1)*v.bq)] 27)) g7 #[Z ab u.f0,Z ab u.f1] 27:=(aa m7 _)
 replace m8:dW (Wx.alloc (.cells #[Z ab ((speed+1000*u.f0)*v.bq),Z ab ((speed+1000*u.f1)*v.bq)] 27)) g8 #[Z ab 0,Z ab 0] 27:=(aa m8 _)
 replace mB:Below w.heap.size w (Wx.alloc (.cells #[Z ab ((speed+1000*u.f0)*v.bq),Z ab ((speed+1000*u.f1)*v.bq)] 27)):=(aH mB _)
 have kZ:w.heap.size≤Wx.heap.size:=adA
 generalize qQ:(Wx.alloc (.cells #[Z ab ((speed+1000*u.f0)*v.bq),Z ab ((speed+1000*u.f1)*v.bq)] 27)) = W2 at mT m5 m7 m8 m9 mB ⊢
 clear qQ
 generalize hg9:Wx.heap.size = g9 at m9 ⊢
 have Jw:b≠g9:=by omega
 have agy:g5≠g9:=by omega
 have yA:g7≠g9:=by omega
 have Hg:g8≠g9:=by omega
 have ZQ:g9≠b:=Jw.symm
 have aCn:g9≠g5:=agy.symm
 have MO:g9≠g7:=yA.symm
 have VD:g9≠g8:=Hg.symm
 have hG9:w.heap.size≤g9:=by omega
 clear kZ yz Qk VC ZP
 try clear hg9
 have vI:w.heap.size≤W2.heap.size:=mB.size
 have t0:=tdm ((speed+1000*u.f0)*v.bq)
 have t1:=tdm ((speed+1000*u.f1)*v.bq)
 generalize (speed+1000*u.f0)*v.bq = X at*
 generalize (speed+1000*u.f1)*v.bq = Y at*
 generalize hq0:Int.tdiv X 1000000 = q0 at*
 generalize hr0:Int.tmod X 1000000 = r0 at*
 generalize hq1:Int.tdiv Y 1000000 = q1 at*
 generalize hr1:Int.tmod Y 1000000 = r1 at*
 have bq0:-10000000000000≤q0∧q0≤10000000000000:=by omega
 have bq1:-10000000000000≤q1∧q1≤10000000000000:=by omega
 have T0:=Lib.hid t0
 have T1:=Lib.hid t1
 clear t0 t1
 obtain ⟨R4,VE⟩:=Ch m5
 obtain ⟨Jy,Jz⟩:=Ch m9
 obtain ⟨LW,LX,aFW,aFX⟩:=iQ m8
 go_wp2_with fail
 go_quiet (fail)
 clear hq0 hq1
 go_wp2
 all_goals
  have t0:=T0.out
  have t1:=T1.out
  try simp only [bne_iff_ne,ne_eq,bne_eq_false_iff_eq] at*
  exact bodyPost_ret (results_cell_row rfl _ _ g8 27 #[_,_] (0,0) _ rfl (aK (aK (au m8 _) 0 _ rfl) 1 _ rfl) Try.underlying27 rfl aT) rfl ⟨aoL (by rw [HR.out];unfold Mi;dsimp only;omega) (by rw [HR.out];unfold upM;dsimp only;omega),(((ng mB) _).setCell ZO _).setCell ZO _⟩
end Go.Proofs.Ytmhaiihjfgfaoaa.Gl
end
section
namespace Go.Proofs.Ytmhaiihjfgfaoaa.Gl
open Go.RowKit Go.Shelf Go.Proofs.YtmhaiihjfgfaoaaW.bu Go.Proofs.YtmhaiihjfgfaoaaW.dB Go.Proofs.YtmhaiihjfgfaoaaW.ek Go.Proofs.Ytmhaiihjfgfaoaa.Pr Go.Proofs.YtmhaiihjfgfaoaaW.Round
attribute [local go_sem] iq iw jq jr iy
attribute [local go_sem] Oper.semAt_some
def amk (nx i0:Int) (n:Nat) (k:Int):List Int:=(List.range n).map fun j:Nat=>k*nx+(i0+(j:Int))
def allT (nx i0:Int) (n:Nat) (k0:Int) (m:Nat):List Int:=(List.range m).flatMap fun r:Nat=>amk nx i0 n (k0+(r:Int))
def Ew (nx i0:Int) (n:Nat) (k0:Int) (q j:Nat):List Int:=allT nx i0 n k0 q++amk nx i0 j (k0+(q:Int))
theorem agz (nx i0:Int) (n:Nat) (k0:Int):Ew nx i0 n k0 0 0 = []:=rfl
theorem Yi (nx i0:Int) (n:Nat) (k0:Int) (q:Nat):Ew nx i0 n k0 q 0 = allT nx i0 n k0 q:=by unfold Ew amk;simp
theorem MP (nx i0:Int) (n:Nat) (k0:Int) (q j:Nat):Ew nx i0 n k0 q (j+1) = Ew nx i0 n k0 q j++[(k0+(q:Int))*nx+(i0+(j:Int))]:=by
 unfold Ew amk
 rw [List.range_succ,List.map_append,List.map_singleton,List.append_assoc]
theorem Ql (nx i0:Int) (n:Nat) (k0:Int) (q:Nat):allT nx i0 n k0 (q+1) = Ew nx i0 n k0 q n:=by
 unfold Ew allT
 rw [List.range_succ,List.flatMap_append,List.flatMap_singleton]
theorem adB (nx i0:Int) (n:Nat) (k0:Int):∀ (d q:Nat),allT nx i0 n k0 q <+:allT nx i0 n k0 (q+d)
 |0,q=>List.prefix_refl _
 |d+1,q=>by
  refine (adB nx i0 n k0 d q).trans ?_
  rw [show q+(d+1) = (q+d)+1 by omega,Ql]
  exact List.prefix_append _ _
theorem Yj {nx i0:Int} {n:Nat} {k0:Int} {m q j:Nat} (hq:q < m) (hj:j≤n):Ew nx i0 n k0 q j <+:allT nx i0 n k0 m:=by
 have h1:Ew nx i0 n k0 q j <+:Ew nx i0 n k0 q n:=by
  unfold Ew
  refine (List.prefix_append_right_inj _).2 ?_
  unfold amk
  refine List.IsPrefix.map _ ?_
  rw [show n = j+(n - j) by omega,List.range_add]
  exact List.prefix_append _ _
 rw [← Ql] at h1
 have h2:=adB nx i0 n k0 (m - (q+1)) (q+1)
 rw [show q+1+(m - (q+1)) = m by omega] at h2
 exact h1.trans h2
abbrev FC (s:lK):={ c:Int // 0≤c∧c < s.nx*s.ny }
def sF (s:lK) (x:iA):List Int:=allT s.nx (vC s.cell x.f0 s.nx).1 ((vC s.cell x.f0 s.nx).2+1 - (vC s.cell x.f0 s.nx).1).toNat (vC s.cell x.f1 s.ny).1 ((vC s.cell x.f1 s.ny).2+1 - (vC s.cell x.f1 s.ny).1).toNat
def aoQ (s:lK) (x:iA) (xs:List (FC s)):Prop:=xs.map Subtype.val = sF s x
def atC (s:lK) (x:iA) (xs:List (FC s)):Prop:=xs.map Subtype.val <+:sF s x
theorem aiO {c:Int} {a:jK} {most:Int} (hc:1≤c) (h0:0≤a.f0) (h1:0≤a.f1) (hm:1≤most):(0≤(vC c a most).1∧(vC c a most).1≤most - 1)∧(0≤(vC c a most).2∧(vC c a most).2≤most - 1):=by
 have d0:=Qh h0 hc
 have d1:=Qh h1 hc
 unfold vC yx
 dsimp only
 split <;> omega
def Yk (s:lK) (x:iA):Prop:=(0≤x.f0.f0∧x.f0.f0≤1099511627776)∧(0≤x.f0.f1∧x.f0.f1≤1099511627776)∧(0≤x.f1.f0∧x.f1.f0≤1099511627776)∧(0≤x.f1.f1∧x.f1.f1≤1099511627776)
theorem Ry (b:Nat) (x:iA) (w:ao):Calls Try.prog 118 #[.pointer (some ⟨b,0,none⟩),.agg #[Z ab x.f0.f0,Z ab x.f0.f1,Z ab x.f1.f0,Z ab x.f1.f1]] w fun e w'=>e = .returned (.func (.func 135) #[] #[.pointer (some ⟨w.heap.size,0,none⟩),.pointer (some ⟨w.heap.size+1,0,none⟩)])∧w' = (w.alloc (.cells #[.pointer (some ⟨b,0,none⟩)] 104)).alloc (.cells #[Z ab x.f0.f0,Z ab x.f0.f1,Z ab x.f1.f0,Z ab x.f1.f1] 31):=by
 have qj:=Try.underlying31
 go_enter Try.func118,Try.ntmps118
 go_wp2
 go_ret
 exact ⟨rfl,rfl⟩
theorem row_in {nx ny k:Int} (hx:1≤nx) (h0:0≤k) (h1:k≤ny - 1):0≤k*nx∧k*nx≤nx*ny - nx:=by
 refine ⟨Int.mul_nonneg h0 (by omega),?_⟩
 have h:=Int.mul_le_mul_of_nonneg_right h1 (show 0≤nx by omega)
 rw [Int.sub_mul,Int.one_mul,Int.mul_comm ny nx] at h
 exact h
def Env (w0:ao) (bp bx b:Nat) (x:iA) (W:ao):Prop:=Below w0.heap.size w0 W∧dW W bp #[.pointer (some ⟨b,0,none⟩)] 104∧dW W bx #[Z ab x.f0.f0,Z ab x.f0.f1,Z ab x.f1.f0,Z ab x.f1.f1] 31
theorem Env.below {w0:ao} {bp bx b:Nat} {x:iA} {W W1:ao} (h:Env w0 bp bx b x W) (hb:Below W.heap.size W W1):Env w0 bp bx b x W1:=⟨bI h.1 hb,h.2.1.below hb,h.2.2.below hb⟩
theorem Rz (n:Nat) (hn:1≤n) (l bp bx:Nat) (w0:ao) (b:Nat) (s:lK) (v:nW) (x:iA) (hT:lC w0 b s v) (hS:Cm s) (hx:Yk s x) (Kp:ao→ao→Prop) (hKp:∀ A B,Kp A B→Env w0 bp bx b x A→Env w0 bp bx b x B) (J Jx:List (FC s)→ao→Prop)
 (hY:∀ pre c W,J pre W→pre.length < (sF s x).length→YieldAt Fence.wide (n - 1) Try.prog l #[Z ab c.1] W fun e W' =>
  (e = .returned (.bool true)∧J (pre++[c]) W'∧Kp W W')∨(e = .returned (.bool false)∧Jx (pre++[c]) W'))
 (hJa:∀ (f:List (FC s)) W W',J f W→Below W.heap.size W W'→J f W')
 (W:ao) (hE:Env w0 bp bx b x W) (h0:J [] W):
 CallsIn Fence.wide n Try.prog 135 #[.func (.yield l) #[] #[],.pointer (some ⟨bp,0,none⟩),.pointer (some ⟨bx,0,none⟩)] W fun e W'=>(∃ v,e = .returned v)∧
  ((∃ xs,aoQ s x xs∧J xs W')∨(∃ pre,atC s x pre∧Jx pre W')):=by
 have qj:=Try.underlying31
 have oO:=Try.underlying27
 obtain ⟨⟨x0,x1⟩,⟨x2,x3⟩,⟨x4,x5⟩,x6,x7⟩:=hx
 have hcl:=hS.cell
 have hnx:=hS.nx
 have hny:=hS.ny
 have gI:=aiO (c:=s.cell) (a:=x.f0) (most:=s.nx) (by omega) x0 x2 hnx.1
 have gK:=aiO (c:=s.cell) (a:=x.f1) (most:=s.ny) (by omega) x4 x6 hny.1
 have kN:=fun W (h:lC W b s v)=>Rw b s v x.f0 s.nx W h hS x0 x1 x2 x3 hnx.1 hnx.2
 have kM:=fun W (h:lC W b s v)=>Rw b s v x.f1 s.ny W h hS x4 x5 x6 x7 hny.1 hny.2
 have aCp:sF s x = allT s.nx (vC s.cell x.f0 s.nx).1 ((vC s.cell x.f0 s.nx).2+1 - (vC s.cell x.f0 s.nx).1).toNat (vC s.cell x.f1 s.ny).1 ((vC s.cell x.f1 s.ny).2+1 - (vC s.cell x.f1 s.ny).1).toNat:=rfl
 generalize vC s.cell x.f0 s.nx = I at*
 generalize vC s.cell x.f1 s.ny = K at*
 obtain ⟨i0,i1⟩:=I
 obtain ⟨k0,k1⟩:=K
 dsimp only at gI gK kN kM aCp
 obtain ⟨⟨i2,i3⟩,i4,i5⟩:=gI
 obtain ⟨⟨k2,k3⟩,k4,k5⟩:=gK
 have agA:=Lib.hid aCp
 clear aCp hcl
 have hE0:=hE
 obtain ⟨hb0,mP,mX⟩:=hE0
 obtain ⟨A7,c7,A8,c8,mT,_⟩:=hT.below hb0
 clear hb0
 refine callsIn_of_wp Try.func135 rfl trivial ?_ rfl
 simp only [Try.ntmps135,List.size_toArray,List.length_cons,List.length_nil,Nat.reduceAdd,Nat.reduceSub,Array.replicate_succ,Array.replicate_zero,List.push_toArray,List.append_toArray,List.nil_append,List.cons_append]
 gi_wp2_with fail
 refine Fy (wpIn_wide.2 ?_)
 replace mT:=ag mT
 replace mP:=ag mP
 replace mX:=ag mX
 replace h0:=hJa _ _ _ h0 (bF (Below.refl _ _))
 replace hE:=hE.below (bF (Below.refl _ _))
 refine jV (n:=14) (S:=fun w'=>w'.cell? ⟨bp,0,none⟩ = some (.pointer (some ⟨b,0,none⟩))∧w'.cell? ⟨bx,0,none⟩ = some (Z ab x.f0.f0)∧w'.cell? ⟨bx,1,none⟩ = some (Z ab x.f0.f1)∧w'.cell? ⟨b,0,none⟩ = some (Z ab s.nx)) (ds:=[]) #[al,al,al,al,al,al,al,al,al,al,al,al,al,al] aT rfl rfl ⟨((ae mP 0).trans rfl),((ae mX 0).trans rfl),((ae mX 1).trans rfl),((ae mT 0).trans rfl)⟩ (fun hHeld=>?_)
 generalize hWd:World.drew _ = Wx at*
 clear hWd
 refine dR (i:=1) (N:=some 12) aT ?_
 refine iT (i:=0) (N:=some 11) aT hHeld ?_
 refine iT (i:=2) (N:=some 13) aT hHeld ?_
 refine iT (i:=3) (N:=some 14) aT hHeld ?_
 refine dR (i:=4) (N:=some 15) aT ?_
 refine dR (i:=5) (N:=some 16) aT ?_
 refine dR (i:=6) (N:=some 17) aT ?_
 refine iT (i:=7) (N:=some 18) aT hHeld ?_
 refine iW (i:=8) (N:=some 19) #[ac,ac,ac,ac,ac,ac,ac,ac,ac,al,al,al,al,al] rfl rfl aT (by decide) (fun K hK=>?_)
 have jL:=kN Wx (hT.below hE.1)
 refine gY Try.func136 aT rfl #[.pointer (some ⟨b,0,none⟩),.agg #[Z ab x.f0.f0,Z ab x.f0.f1],Z ab s.nx] (by rfl) rfl rfl Ju ?_
 with_reducible refine (jL).mono ?_
 rintro e W1 ⟨rfl,hb2⟩
 refine ⟨_,rfl,?_⟩
 clear jL
 replace mT:=ah mT hb2
 replace mP:=ah mP hb2
 replace mX:=ah mX hb2
 replace h0:=hJa _ _ _ h0 hb2
 replace hE:=hE.below hb2
 clear hb2
 refine hK.out _ _ ⟨((ae mP 0).trans rfl),((ae mX 0).trans rfl),((ae mX 1).trans rfl),((ae mT 0).trans rfl)⟩ (fun hHeld=>?_)
 clear hK K
 refine dQ aFc ?_
 refine dR (i:=9) (N:=some 10) aT ?_
 refine dR (i:=10) (N:=some 20) aT ?_
 refine dR (i:=11) (N:=some 21) aT ?_
 refine dR (i:=12) (N:=some 4) aT ?_
 refine dR (i:=13) (N:=some 5) aT ?_
 refine mi aT ?_
 refine Hf ?_
 gi_wp2_with fail
 refine Fy (wpIn_wide.2 ?_)
 replace mT:=ag mT
 replace mP:=ag mP
 replace mX:=ag mX
 replace h0:=hJa _ _ _ h0 (bF (Below.refl _ _))
 replace hE:=hE.below (bF (Below.refl _ _))
 refine jV (n:=14) (S:=fun w'=>w'.cell? ⟨bp,0,none⟩ = some (.pointer (some ⟨b,0,none⟩))∧w'.cell? ⟨bx,2,none⟩ = some (Z ab x.f1.f0)∧w'.cell? ⟨bx,3,none⟩ = some (Z ab x.f1.f1)∧w'.cell? ⟨b,1,none⟩ = some (Z ab s.ny)) (ds:=[]) #[al,al,al,al,al,al,al,al,al,al,al,al,al,al] aT rfl rfl ⟨((ae mP 0).trans rfl),((ae mX 2).trans rfl),((ae mX 3).trans rfl),((ae mT 1).trans rfl)⟩ (fun hHeld=>?_)
 generalize hWd:World.drew _ = Wx at*
 clear hWd
 refine dR (i:=1) (N:=some 24) aT ?_
 refine iT (i:=0) (N:=some 23) aT hHeld ?_
 refine iT (i:=2) (N:=some 25) aT hHeld ?_
 refine iT (i:=3) (N:=some 26) aT hHeld ?_
 refine dR (i:=4) (N:=some 27) aT ?_
 refine dR (i:=5) (N:=some 28) aT ?_
 refine dR (i:=6) (N:=some 29) aT ?_
 refine iT (i:=7) (N:=some 30) aT hHeld ?_
 refine iW (i:=8) (N:=some 31) #[ac,ac,ac,ac,ac,ac,ac,ac,ac,al,al,al,al,al] rfl rfl aT (by decide) (fun K hK=>?_)
 have jL:=kM Wx (hT.below hE.1)
 refine gY Try.func136 aT rfl #[.pointer (some ⟨b,0,none⟩),.agg #[Z ab x.f1.f0,Z ab x.f1.f1],Z ab s.ny] (by rfl) rfl rfl Ju ?_
 with_reducible refine (jL).mono ?_
 rintro e W2 ⟨rfl,hb2⟩
 refine ⟨_,rfl,?_⟩
 clear jL
 replace mT:=ah mT hb2
 replace mP:=ah mP hb2
 replace mX:=ah mX hb2
 replace h0:=hJa _ _ _ h0 hb2
 replace hE:=hE.below hb2
 clear hb2
 refine hK.out _ _ ⟨((ae mP 0).trans rfl),((ae mX 2).trans rfl),((ae mX 3).trans rfl),((ae mT 1).trans rfl)⟩ (fun hHeld=>?_)
 clear hK K
 refine dQ (by show Act.put _ (some 31) _ = _;simp only [Act.put,ap,aq,ar,eY,fo];rfl) ?_
 refine dR (i:=9) (N:=some 22) aT ?_
 refine dR (i:=10) (N:=some 32) aT ?_
 refine dR (i:=11) (N:=some 33) aT ?_
 refine dR (i:=12) (N:=some 6) aT ?_
 refine dR (i:=13) (N:=some 7) aT ?_
 refine mi aT ?_
 refine Hf ?_
 clear mT mP mX kN kM
 gi_wp2
 gi_loopw [8] (fun i wr=>∃ (q:Nat) (pre:List (FC s)),q≤(k1+1 - k0).toNat∧i = Z ab (k0+(q:Int))∧Hid (pre.map Subtype.val = Ew s.nx i0 (i1+1 - i0).toNat k0 q 0)∧Env w0 bp bx b x wr∧J pre wr) (fun i _=>(k1+1 - intOf i).toNat)
 case atStart=>exact ⟨0,[],Nat.zero_le _,by simp,Lib.hid (by rw [agz];rfl),hE,h0⟩
 case round =>
  clear hE h0
  obtain ⟨q,pre,hq,rfl,HP,hE,hJs⟩:=hrel
  by_cases hlt:k0+(q:Int)≤k1
  ·gi_wp2
   gi_loopw [9] (fun i wr2=>∃ (j:Nat) (Qm:List (FC s)),j≤(i1+1 - i0).toNat∧i = Z ab (i0+(j:Int))∧Hid (Qm.map Subtype.val = Ew s.nx i0 (i1+1 - i0).toNat k0 q j)∧Env w0 bp bx b x wr2∧J Qm wr2) (fun i _=>(i1+1 - intOf i).toNat)
   case atStart=>exact ⟨0,pre,Nat.zero_le _,by simp,HP,hE,hJs⟩
   case round =>
    clear hE hJs
    obtain ⟨j,Qm,hj,rfl,HQ,hE,hJ2⟩:=hrel
    by_cases hjk:i0+(j:Int)≤i1
    ·have hlen:Qm.length < (sF s x).length:=by
      have h1:=Yj (nx:=s.nx) (i0:=i0) (k0:=k0) (show q < (k1+1 - k0).toNat by omega) (show j+1≤(i1+1 - i0).toNat by omega)
      have h2:=h1.length_le
      rw [MP,← HQ.out,← agA.out] at h2
      simp at h2
      omega
     have hr:=row_in (ny:=s.ny) (k:=k0+(q:Int)) hnx.1 (by omega) (by omega)
     have hxy:=je (show 0≤s.nx by omega) hnx.2 (show 0≤s.ny by omega) hny.2
     obtain ⟨fn,tmps,assign,body,hy,hR⟩:=hY Qm ⟨(k0+(q:Int))*s.nx+(i0+(j:Int)),by omega,by omega⟩ _ hJ2 hlen
     dsimp only at hy
     have hE0:=hE
     obtain ⟨hb0,mP,_⟩:=hE0
     obtain ⟨A7,c7,A8,c8,mT,_⟩:=hT.below hb0
     clear hb0
     have cP:=(ae mP 0).trans rfl
     have cT:=(ae mT 0).trans rfl
     clear mT mP
     gi_wp2
     refine hR.mono ?_
     rintro e W3 (⟨rfl,hJ3,hk3⟩|⟨rfl,hJx3⟩)
     ·clear cP cT
      have hE3:=hKp _ _ hk3 hE
      clear hk3 hE
      gi_wp2
      go_roundw
      case rel=>exact ⟨j+1,_,by omega,by simp;omega,Lib.hid (by rw [List.map_append,HQ.out,MP];rfl),hE3,hJ3⟩
      case measure=>simp [intOf];omega
     ·gi_wp2
      refine bodyPost_ret (results_none rfl _ _ _) rfl ?_
      refine ⟨⟨_,rfl⟩,.inr ⟨_,?_,hJx3⟩⟩
      show List.map Subtype.val _ <+:_
      rw [List.map_append,HQ.out,List.map_singleton,← MP,agA.out]
      exact Yj (by omega) (by omega)
    ·obtain rfl:j = (i1+1 - i0).toNat:=by omega
     gi_wp2
     go_roundw
     case rel=>exact ⟨q+1,Qm,by omega,by simp;omega,Lib.hid (by rw [HQ.out,Yi,← Ql]),hE,hJ2⟩
     case measure=>simp [intOf];omega
  ·obtain rfl:q = (k1+1 - k0).toNat:=by omega
   gi_wp2
   go_end0
   exact ⟨⟨_,rfl⟩,.inl ⟨pre,by unfold aoQ;rw [agA.out,HP.out,Yi],hJs⟩⟩
theorem dW.E8 {W W1:ao} {b:Nat} {c:Array Value} {t:TypeId} (h:W.heap[b]? = some (.cells c t (0,0))) (hb:Below W.heap.size W W1):dW W1 b c t:=(hb.block b (Array.getElem?_eq_some_iff.1 h).1).trans h
theorem lD {B b:Nat} {c:Array Value} {t:TypeId} {X Y:ao} {row:Option Nat} (hs:dW X b c t) (hg:X.grownBy Y row) (hr:∀ r,row = some r→B≤r∧∃ o:Obj,X.heap[r]? = some o∧o.isCells = false):dW Y b c t :=
 (hg.block b (Array.getElem?_eq_some_iff.1 hs).1 (fun e=>by obtain ⟨_,o,ho,hc⟩:=hr b e.symm;rw [show X.heap[b]? = _ from hs] at ho;cases ho;cases hc)).trans hs
theorem o7 {B:Nat} {W W1:ao} (hb:Below W.heap.size W W1):KeepsFrom B W W1 :=
 ⟨hb.size,fun k o _ h0 _=>(hb.block k (Array.getElem?_eq_some_iff.1 h0).1).trans h0⟩
theorem sG {β:Type} (B b:Nat) (f:β→Array Value) (t:TypeId):OwnFrom B (fun s W=>dW W b (f s) t):=fun s X Y row hs hg hr=>lD hs hg hr
theorem ownFrom_pure {β:Type} (B:Nat) (f:β→Prop):OwnFrom B (fun s (_:ao)=>f s):=fun s X Y row hs hg hr=>hs
theorem VF {P:Program} {fn:Func} {p:Tmp} {ty:TypeId} {k:IntKind} (h:fn.results = #[.cell p ty]) (tmps:Array Value) (w:ao) (g:Nat) (t:TypeId) (v:Value) (hp:tmps.getD p undef = .pointer (some ⟨g,0,none⟩)) (hg:w.heap[g]? = some (.cells #[v] t (0,0))) (hu:P.underlying ty = some (.int k)):
 (results fn tmps).run P w = .ok v w:=by
 have hp':tmps[p]?.getD undef = .pointer (some ⟨g,0,none⟩):=by simpa using hp
 have hc:w.cell? ⟨g,0,none⟩ = some v:=(ae hg 0).trans rfl
 have hb:(loadVar ty ⟨g,0,none⟩).run P w = .ok v w:=by
  have ha:(isAgg ty).run P w = .ok false w:=by
   unfold isAgg
   rw [Sem.run_bind,run_underlying hu w]
   rfl
  unfold loadVar
  rw [Sem.run_bind,ha]
  go_simp
 simp [results,h,hp',asAddr,hb]
def Ex (s:lK) (x:iA):Int:=if (sF s x).any (fun c=>GD false s.bf c) then 21 else 0
theorem atD {s:lK} {x:iA} {xs:List (FC s)} (h:aoQ s x xs) (hf:∀ c ∈ xs,GD false s.bf c.1 = false):Ex s x = 0:=by
 unfold Ex
 rw [← show xs.map Subtype.val = sF s x from h,if_neg]
 rw [List.any_map,List.any_eq_true]
 rintro ⟨c,hc,h1⟩
 have h2:=hf c hc
 rw [show GD false s.bf c.1 = true from h1] at h2
 cases h2
theorem aoR {s:lK} {x:iA} {ini:List (FC s)} {last:FC s} (h:atC s x (ini++[last])) (hl:GD false s.bf last.1 = true):Ex s x = 21:=by
 unfold Ex
 obtain ⟨t,ht⟩:=h
 rw [← ht,if_pos]
 rw [List.map_append,List.any_append,List.any_append]
 simp [hl]
theorem aoS (b:Nat) (s:lK) (v:nW) (x:iA) (w:ao) (hT:lC w b s v) (hS:Cm s) (hx:Yk s x) (hsh:(s.bf.length:Int) = s.nx*s.ny):
 Calls Try.prog 115 #[.pointer (some ⟨b,0,none⟩),.agg #[Z ab x.f0.f0,Z ab x.f0.f1,Z ab x.f1.f0,Z ab x.f1.f1]] w (yw (Z ab (Ex s x)) w):=by
 have qj:=Try.underlying31
 have hxy:=je (show 0≤s.nx by have:=hS.nx;omega) hS.nx.2 (show 0≤s.ny by have:=hS.ny;omega) hS.ny.2
 have HSH:=Lib.hid hsh
 clear hsh
 refine (callsIn_wide (n:=6)).1 ?_
 refine callsIn_of_wp_marks Try.func115 rfl trivial ?_ rfl
 simp only [Try.ntmps115,List.size_toArray,List.length_cons,List.length_nil,Nat.reduceAdd,Nat.reduceSub,Array.replicate_succ,Array.replicate_zero,List.push_toArray,List.append_toArray,List.nil_append,List.cons_append]
 gi_wp2_with fail
 refine ⟨trivial,(callsIn_wide.2 (Ry _ _ _)).mono ?_⟩
 rintro e W_ ⟨rfl,rfl⟩
 gi_wp2_with fail
 have m2:dW (((((w.alloc (.cells #[.pointer (some ⟨b,0,none⟩)] 104)).alloc (.cells #[Z ab x.f0.f0,Z ab x.f0.f1,Z ab x.f1.f0,Z ab x.f1.f1] 31)).alloc (.cells #[Z ab 0] 36)).alloc (.cells #[.pointer (some ⟨b,0,none⟩)] 104)).alloc (.cells #[Z ab x.f0.f0,Z ab x.f0.f1,Z ab x.f1.f0,Z ab x.f1.f1] 31)) (w.heap.size) #[.pointer (some ⟨b,0,none⟩)] 104:=(aa (aa (aa (aa aFd _) _) _) _)
 have m3:dW (((((w.alloc (.cells #[.pointer (some ⟨b,0,none⟩)] 104)).alloc (.cells #[Z ab x.f0.f0,Z ab x.f0.f1,Z ab x.f1.f0,Z ab x.f1.f1] 31)).alloc (.cells #[Z ab 0] 36)).alloc (.cells #[.pointer (some ⟨b,0,none⟩)] 104)).alloc (.cells #[Z ab x.f0.f0,Z ab x.f0.f1,Z ab x.f1.f0,Z ab x.f1.f1] 31)) (w.heap.size+1) #[Z ab x.f0.f0,Z ab x.f0.f1,Z ab x.f1.f0,Z ab x.f1.f1] 31:=(aa (aa (aa aFe _) _) _)
 have m4:dW (((((w.alloc (.cells #[.pointer (some ⟨b,0,none⟩)] 104)).alloc (.cells #[Z ab x.f0.f0,Z ab x.f0.f1,Z ab x.f1.f0,Z ab x.f1.f1] 31)).alloc (.cells #[Z ab 0] 36)).alloc (.cells #[.pointer (some ⟨b,0,none⟩)] 104)).alloc (.cells #[Z ab x.f0.f0,Z ab x.f0.f1,Z ab x.f1.f0,Z ab x.f1.f1] 31)) (w.heap.size+1+1) #[Z ab 0] 36:=(aa (aa (by have h_:=eB ((w.alloc (.cells #[.pointer (some ⟨b,0,none⟩)] 104)).alloc (.cells #[Z ab x.f0.f0,Z ab x.f0.f1,Z ab x.f1.f0,Z ab x.f1.f1] 31)) (.cells #[Z ab 0] 36);first|exact h_|(simp only [World.size_alloc] at h_;exact h_)) _) _)
 have mP:dW (((((w.alloc (.cells #[.pointer (some ⟨b,0,none⟩)] 104)).alloc (.cells #[Z ab x.f0.f0,Z ab x.f0.f1,Z ab x.f1.f0,Z ab x.f1.f1] 31)).alloc (.cells #[Z ab 0] 36)).alloc (.cells #[.pointer (some ⟨b,0,none⟩)] 104)).alloc (.cells #[Z ab x.f0.f0,Z ab x.f0.f1,Z ab x.f1.f0,Z ab x.f1.f1] 31)) (w.heap.size+1+1+1) #[.pointer (some ⟨b,0,none⟩)] 104:=(aa (by have h_:=eB (((w.alloc (.cells #[.pointer (some ⟨b,0,none⟩)] 104)).alloc (.cells #[Z ab x.f0.f0,Z ab x.f0.f1,Z ab x.f1.f0,Z ab x.f1.f1] 31)).alloc (.cells #[Z ab 0] 36)) (.cells #[.pointer (some ⟨b,0,none⟩)] 104);first|exact h_|(simp only [World.size_alloc] at h_;exact h_)) _)
 have mX:dW (((((w.alloc (.cells #[.pointer (some ⟨b,0,none⟩)] 104)).alloc (.cells #[Z ab x.f0.f0,Z ab x.f0.f1,Z ab x.f1.f0,Z ab x.f1.f1] 31)).alloc (.cells #[Z ab 0] 36)).alloc (.cells #[.pointer (some ⟨b,0,none⟩)] 104)).alloc (.cells #[Z ab x.f0.f0,Z ab x.f0.f1,Z ab x.f1.f0,Z ab x.f1.f1] 31)) (w.heap.size+1+1+1+1) #[Z ab x.f0.f0,Z ab x.f0.f1,Z ab x.f1.f0,Z ab x.f1.f1] 31:=(by have h_:=eB ((((w.alloc (.cells #[.pointer (some ⟨b,0,none⟩)] 104)).alloc (.cells #[Z ab x.f0.f0,Z ab x.f0.f1,Z ab x.f1.f0,Z ab x.f1.f1] 31)).alloc (.cells #[Z ab 0] 36)).alloc (.cells #[.pointer (some ⟨b,0,none⟩)] 104)) (.cells #[Z ab x.f0.f0,Z ab x.f0.f1,Z ab x.f1.f0,Z ab x.f1.f1] 31);first|exact h_|(simp only [World.size_alloc] at h_;exact h_))
 have mB:Below w.heap.size w (((((w.alloc (.cells #[.pointer (some ⟨b,0,none⟩)] 104)).alloc (.cells #[Z ab x.f0.f0,Z ab x.f0.f1,Z ab x.f1.f0,Z ab x.f1.f1] 31)).alloc (.cells #[Z ab 0] 36)).alloc (.cells #[.pointer (some ⟨b,0,none⟩)] 104)).alloc (.cells #[Z ab x.f0.f0,Z ab x.f0.f1,Z ab x.f1.f0,Z ab x.f1.f1] 31)):=(aH (aH (aH (aH (aH (Below.refl w.heap.size w) _) _) _) _) _)
 have kZ:w.heap.size≤w.heap.size:=Nat.le_refl _
 generalize qQ:(((((w.alloc (.cells #[.pointer (some ⟨b,0,none⟩)] 104)).alloc (.cells #[Z ab x.f0.f0,Z ab x.f0.f1,Z ab x.f1.f0,Z ab x.f1.f1] 31)).alloc (.cells #[Z ab 0] 36)).alloc (.cells #[.pointer (some ⟨b,0,none⟩)] 104)).alloc (.cells #[Z ab x.f0.f0,Z ab x.f0.f1,Z ab x.f1.f0,Z ab x.f1.f1] 31)) = W0 at m2 m3 m4 mP mX mB ⊢
 clear qQ
 generalize hg2:w.heap.size = g2 at m2 m3 m4 mP mX ⊢
 have hG2:w.heap.size≤g2:=by omega
 generalize hg3:g2+1 = g3 at m3 m4 mP mX ⊢
 have MQ:g2≠g3:=by omega
 have agB:g3≠g2:=MQ.symm
 have hG3:w.heap.size≤g3:=by omega
 generalize hg4:g3+1 = g4 at m4 mP mX ⊢
 have aCq:g2≠g4:=by omega
 have VG:g3≠g4:=by omega
 have aWz:g4≠g2:=aCq.symm
 have aCr:g4≠g3:=VG.symm
 have hG4:w.heap.size≤g4:=by omega
 generalize hgP:g4+1 = gP at mP mX ⊢
 have aCs:g2≠gP:=by omega
 have aCt:g3≠gP:=by omega
 have aCu:g4≠gP:=by omega
 have aWA:gP≠g2:=aCs.symm
 have aWB:gP≠g3:=aCt.symm
 have aWC:gP≠g4:=aCu.symm
 have hGP:w.heap.size≤gP:=by omega
 generalize hgX:gP+1 = gX at mX ⊢
 have aCv:g2≠gX:=by omega
 have aCw:g3≠gX:=by omega
 have aCx:g4≠gX:=by omega
 have ZR:gP≠gX:=by omega
 have aWD:gX≠g2:=aCv.symm
 have aWE:gX≠g3:=aCw.symm
 have aWF:gX≠g4:=aCx.symm
 have aoT:gX≠gP:=ZR.symm
 have hGX:w.heap.size≤gX:=by omega
 clear kZ
 try clear hgX
 try clear hgP
 try clear hg4
 try clear hg3
 try clear hg2
 have Jc:w.heap.size≤W0.heap.size:=mB.size
 refine wpIn_rangeFunc_ownH rfl (by omega) (gf:=135) (lb:=#[.pointer (some ⟨gP,0,none⟩),.pointer (some ⟨gX,0,none⟩)]) rfl trivial (enters_of Try.func135 aT rfl)
  (encs:=fun c:FC s=>#[Z ab c.1]) (Kp:=Below W0.heap.size) (S:=aoQ s x) (Sp:=atC s x) (N:=(sF s x).length) (w0:=W0)
  (fun l J Jx W hW hJ _ hY h0=>Rz 5 (by omega) l gP gX W0 b s v x (hT.below mB) hS hx (Below W0.heap.size) (fun A B h hE=>⟨hE.1.trans h,(h.block gP (bO mP)).trans hE.2.1,(h.block gX (bO mX)).trans hE.2.2⟩) J Jx hY (fun f X Y h hB=>hJ f X Y none h ⟨hB.os,hB.tape,hB.output,hB.size,fun k hk _=>hB.block k hk⟩ (fun r e=>by cases e)) W ⟨hW,dW.E8 mP hW,dW.E8 mX hW⟩ h0) belowK_t (belowK_b (by omega)) (Below.refl _ _) (fun _=>rfl)
  (fun pre W=>(∀ c ∈ pre,GD false s.bf c.1 = false)∧dW W g2 #[.pointer (some ⟨b,0,none⟩)] 104∧dW W g4 #[Z ab 0] 36∧Below w.heap.size w W)
  (fun c pre W=>∃ ini last,(c = .ret∧pre = ini++[last]∧GD false s.bf last.1 = true)∧dW W g4 #[Z ab 21] 36∧Below w.heap.size w W)
  (OwnFrom.and (ownFrom_pure _ _) (OwnFrom.and (sG _ _ (fun _=>_) _) (OwnFrom.and (sG _ _ (fun _=>_) _) (ownFrom_below (by omega) (by omega)))))
  (fun c pre X Y row hs hg hr=>by
   obtain ⟨ini,last,h1,h2,h3⟩:=hs
   exact ⟨ini,last,h1,lD h2 hg hr,ownFrom_below (by omega) (by omega) () X Y row h3 hg hr⟩)
  ⟨by simp,m2,m4,mB⟩
  (fun c a' W=>a' = { tmps:=#[.pointer (some ⟨b,0,none⟩),.agg #[Z ab x.f0.f0,Z ab x.f0.f1,Z ab x.f1.f0,Z ab x.f1.f1],.pointer (some ⟨g2,0,none⟩),.pointer (some ⟨g3,0,none⟩),.pointer (some ⟨g4,0,none⟩),Z ab c.1,.pointer (some ⟨b,0,none⟩),.agg #[Z ab x.f0.f0,Z ab x.f0.f1,Z ab x.f1.f0,Z ab x.f1.f1],.func (.func 135) #[] #[.pointer (some ⟨gP,0,none⟩),.pointer (some ⟨gX,0,none⟩)],Z ab c.1,undef,undef,undef,undef,undef,undef,undef,undef],defers:=[] })
  (fun c a' s X Y row hs hg hr=>hs) ?assign ?body ?done ?stop
 case assign =>
  rintro l pre c W K hI hK
  gi_wp2
  exact hK _ _ ((KeepsOthers.refl W).from _) (Below.refl _ _) hI rfl
 case body =>
  rintro l pre c a' W hlW ⟨r,hr⟩ ⟨h0,h2,h4,hB⟩ rfl hlen
  have hT2:=hT.below hB
  obtain ⟨A7,c7,A8,c8,hBt,q1,q2,_⟩:=hT2
  have hlt:c.1 < (s.bf.length:Int):=by rw [HSH.out];exact c.2.2
  have hge:=c.2.1
  obtain ⟨ad,e_,hx_⟩:=Kd.Sj q2 c.1 hge hlt
  cases e_
  have c2:=(ae h2 0).trans rfl
  have ct:=(ae hBt 7).trans rfl
  clear hBt q1 q2 hr
  cases hv:GD false s.bf c.1 with
  |false =>
   rw [hv] at hx_
   have HV:=Lib.hid hv
   clear hv
   gi_wp2
   exact ⟨(KeepsOthers.refl W).from _,Below.refl _ _,by
    intro p hp
    rcases List.mem_append.1 hp with hp|hp
    ·exact h0 p hp
    ·obtain rfl:=List.mem_singleton.1 hp
     exact HV.out,h2,h4,hB⟩
  |true =>
   rw [hv] at hx_
   have HV:=Lib.hid hv
   clear hv
   have c4:=(ae h4 0).trans rfl
   have f4:=bg h4 0
   gi_wp2
   exact ⟨(KeepsOthers.setCell _ _ _).from _,pre,c,⟨rfl,rfl,HV.out⟩,aK h4 0 _ rfl,hB.setCell hG4 _⟩
 case done =>
  rintro D_ xs W hD hxs ⟨h0,h2,h4,hB⟩ hK
  have hE:=Lib.hid (atD hxs h0)
  clear h0
  have c4:=(ae h4 0).trans rfl
  have f4:=bg h4 0
  gi_wp2
  have hne:D_≠g4:=by have h_:=bO m4;omega
  refine ⟨by simp,.inl ⟨_,_,rfl,run_takeDeferred ((Below.heap_setCell _ _ _ D_ hne).trans hK),?_⟩⟩
  exact ⟨_,VF rfl _ _ g4 36 (Z ab 0) rfl ((World.putObj_heap_other (fun e=>hne e.symm)).trans (aK h4 0 _ rfl)) Try.underlying36,by rw [hE.out],(hB.setCell hG4 _).trans (belowK_b (w:=w) (Nat.le_refl _) _ D_ _ _ (by have h_:=hB.size;omega) ((Below.heap_setCell _ _ _ D_ hne).trans hK) rfl rfl)⟩
 case stop =>
  rintro D_ c pre W hD hp ⟨ini,last,⟨rfl,rfl,h1⟩,h4,hB⟩ hK
  have hE:=Lib.hid (aoR hp h1)
  gi_wp2
  have hne:D_≠g4:=by have h_:=bO m4;omega
  refine ⟨by simp,.inl ⟨_,_,rfl,run_takeDeferred hK,?_⟩⟩
  exact ⟨_,VF rfl _ _ g4 36 (Z ab 21) rfl ((World.putObj_heap_other (fun e=>hne e.symm)).trans h4) Try.underlying36,by rw [hE.out],hB.trans (belowK_b (w:=w) (Nat.le_refl _) _ D_ _ _ (by omega) hK rfl rfl)⟩
end Go.Proofs.Ytmhaiihjfgfaoaa.Gl
end
section
namespace Go.Proofs.Ytmhaiihjfgfaoaa.Pr
open Go.RowKit Go.Proofs.YtmhaiihjfgfaoaaW.bu Go.Proofs.YtmhaiihjfgfaoaaW.dB Go.Proofs.YtmhaiihjfgfaoaaW.ek
attribute [local go_sem] iq iw jq jr iy
def Ey.f (ai:Int) (aj:Int) (az:Int) (aA:Int) (aQ:Int) (aN:Int) (bC:Int) (bD:Int):Option (Int × Int × Int × Int):=some (mn ai aQ,mx aj aN,mn az bC,mx aA bD)
theorem Ey.calls (ai:Int) (aj:Int) (az:Int) (aA:Int) (aQ:Int) (aN:Int) (bC:Int) (bD:Int) (r1:Int) (r2:Int) (r3:Int) (r4:Int) (w:ao) (h:Ey.f ai aj az aA aQ aN bC bD = some (r1,r2,r3,r4)):
 Calls Try.prog 119 #[.agg #[Z ab ai,Z ab aj,Z ab az,Z ab aA],.agg #[Z ab aQ,Z ab aN,Z ab bC,Z ab bD]] w fun e w'=>e = .returned (.agg #[Z ab r1,Z ab r2,Z ab r3,Z ab r4])∧Below w.heap.size w w':=by
 have qj:=Try.underlying31
 have oO:=Try.underlying27
 have HB:=af.mk (Below.refl w.heap.size w)
 have H:(some (mn ai aQ,mx aj aN,mn az bC,mx aA bD)) = some (r1,r2,r3,r4):=h
 clear h
 obtain ⟨Ck,Jl⟩:∃ j_:Int,(mn ai aQ) = j_:=⟨_,rfl⟩
 replace H:(some (Ck,mx aj aN,mn az bC,mx aA bD)) = some (r1,r2,r3,r4):=by first|(rw [Jl] at H;exact H)|(simp only [Jl] at H ⊢;exact H)
 have aow:(if aQ < ai then aQ else ai) = Ck:=Jl
 obtain ⟨SG,P7⟩:∃ j_:Int,(mx aj aN) = j_:=⟨_,rfl⟩
 replace H:(some (Ck,SG,mn az bC,mx aA bD)) = some (r1,r2,r3,r4):=by first|(rw [P7] at H;exact H)|(simp only [P7] at H ⊢;exact H)
 have azP:(if aj < aN then aN else aj) = SG:=P7
 obtain ⟨ji5,VH⟩:∃ j_:Int,(mn az bC) = j_:=⟨_,rfl⟩
 replace H:(some (Ck,SG,ji5,mx aA bD)) = some (r1,r2,r3,r4):=by first|(rw [VH] at H;exact H)|(simp only [VH] at H ⊢;exact H)
 have aFY:(if bC < az then bC else az) = ji5:=VH
 obtain ⟨ji6,atE⟩:∃ j_:Int,(mx aA bD) = j_:=⟨_,rfl⟩
 replace H:(some (Ck,SG,ji5,ji6)) = some (r1,r2,r3,r4):=by first|(rw [atE] at H;exact H)|(simp only [atE] at H ⊢;exact H)
 have a0j:(if aA < bD then bD else aA) = ji6:=atE
 simp only [Option.some.injEq,Prod.mk.injEq] at H
 obtain ⟨rfl,rfl,rfl,rfl⟩:=H
 go_enter Try.func119,Try.ntmps119
 go_wp2_with (first|((with_reducible refine av (N:=2) rfl ?_);refine ak (by rfl) (N:=2) (by rfl) (cs:=#[Z ab ai,Z ab aj,Z ab az,Z ab aA]) (t:=31) fU ?_;intro a0k hg w7 ay hb;have NW:=af.mk (ay);have a0l:=bY HB hg;have a0m:=bY HB hg;replace HB:=dz HB hb;clear hb ay hg)|((with_reducible refine av (N:=3) rfl ?_);refine ak (by rfl) (N:=3) (by rfl) (cs:=#[Z ab aQ,Z ab aN,Z ab bC,Z ab bD]) (t:=31) fU ?_;intro a0n hg w8 ay hb;have adC:=af.mk (ay);have a0o:=bY HB hg;have a0p:=bY HB hg;have aml:=fG NW hg;have amm:=fH NW hg;replace NW:=bn NW hb;replace HB:=dz HB hb;clear hb ay hg)|((with_reducible refine av (N:=4) rfl ?_);refine ak (by rfl) (N:=4) (by rfl) (cs:=#[Z ab 0,Z ab 0,Z ab 0,Z ab 0]) (t:=31) fU ?_;intro aFZ hg w9 ay hb;have azR:=af.mk (ay);have a0q:=bY HB hg;have a0r:=bY HB hg;have amn:=fG NW hg;have amo:=fH NW hg;have amq:=fG adC hg;have amr:=fH adC hg;replace NW:=bn NW hb;replace adC:=bn adC hb;replace HB:=dz HB hb;clear hb ay hg;have adD:=aml.out;have adE:=amm.out;have adj:=amn.out;have adk:=amo.out;obtain ⟨qa,qb,Sm,Sn,qc,qd,Sq,Sr⟩:=jA NW.out;have adt:=amq.out;have adu:=amr.out;obtain ⟨AY,AZ,KW,KX,Ba,Bb,KY,KZ⟩:=jA adC.out;obtain ⟨oG,oH,rH,rJ,oI,oJ,rM,rO⟩:=jA azR.out))
 refine bodyPost_ret (results_cell_row rfl _ _ aFZ 31 #[Z ab Ck,Z ab SG,Z ab ji5,Z ab ji6] (0,0) _ rfl (by (with_reducible repeat (first|refine au ?_ _|refine ag ?_|refine aa ?_ _));refine aK (cs:=#[Z ab Ck,Z ab SG,Z ab ji5,Z ab 0]) ?_ 3 _ rfl;(with_reducible repeat (first|refine au ?_ _|refine ag ?_|refine aa ?_ _));refine aK (cs:=#[Z ab Ck,Z ab SG,Z ab 0,Z ab 0]) ?_ 2 _ rfl;(with_reducible repeat (first|refine au ?_ _|refine ag ?_|refine aa ?_ _));refine aK (cs:=#[Z ab Ck,Z ab 0,Z ab 0,Z ab 0]) ?_ 1 _ rfl;(with_reducible repeat (first|refine au ?_ _|refine ag ?_|refine aa ?_ _));refine aK (cs:=#[Z ab 0,Z ab 0,Z ab 0,Z ab 0]) ?_ 0 _ rfl;(with_reducible repeat (first|refine au ?_ _|refine ag ?_|refine aa ?_ _));exact azR.out) Try.underlying31 rfl aT) rfl ?_
 exact ⟨by first|rfl|(simp [lg,lh] <;> rfl)|(simp only [← Jl,← P7,← VH,← atE];first|rfl|(simp [lg,lh] <;> rfl))|(simp [*,lg,lh] <;> rfl),gp⟩
end Go.Proofs.Ytmhaiihjfgfaoaa.Pr
end
section
namespace Go.Proofs.Ytmhaiihjfgfaoaa.Gl
open Go.RowKit Go.Shelf Go.Proofs.YtmhaiihjfgfaoaaW.bu Go.Proofs.YtmhaiihjfgfaoaaW.dB Go.Proofs.YtmhaiihjfgfaoaaW.ek Go.Proofs.Ytmhaiihjfgfaoaa.Pr Go.Proofs.YtmhaiihjfgfaoaaW.Round
attribute [local go_sem] iq iw jq jr iy
attribute [local go_sem] Oper.semAt_some
theorem NY (a b:Int):mn a b = min a b:=by unfold mn;split <;> omega
theorem Ez (a b:Int):mx a b = max a b:=by unfold mx;split <;> omega
def AL (a b:iA):iA:=⟨⟨min a.f0.f0 b.f0.f0,max a.f0.f1 b.f0.f1⟩,⟨min a.f1.f0 b.f1.f0,max a.f1.f1 b.f1.f1⟩⟩
def adF (o:Option iA) (y:iA):Option iA:=some (match o with|none=>y|some z=>AL z y)
def vJ (l:List iA):Option iA:=l.foldl adF none
theorem MR (l:List iA) (y:iA):vJ (l++[y]) = adF (vJ l) y:=by unfold vJ;rw [List.foldl_append];rfl
def AA (s:lK) (layer j c:Int):iA:=⟨(bE s.aC ((j*s.layers+layer)*(s.nx*s.ny)+c)).f0,(bE s.aC ((j*s.layers+layer)*(s.nx*s.ny)+c)).f1⟩
def slotL (s:lK) (x:iA) (layer j:Int):List iA:=(sF s x).map (AA s layer j)
def kr (s:lK) (x:iA) (layer j0:Int) (q:Nat):List iA:=(List.range q).flatMap fun r:Nat=>slotL s x layer (j0+(r:Int))
theorem adG (s:lK) (x:iA) (layer j0:Int) (q:Nat):kr s x layer j0 (q+1) = kr s x layer j0 q++slotL s x layer (j0+(q:Int)):=by
 unfold kr
 rw [List.range_succ,List.flatMap_append,List.flatMap_singleton]
def XG (s:lK) (x:iA) (layer t u:Int):iA:=(vJ (kr s x layer (t / s.slot) ((u - 1) / s.slot+1 - t / s.slot).toNat)).getD z31
def Mj (w:ao) (bp bx b:Nat) (x:iA) (A B:ao):Prop:=Below w.heap.size A B∧(dW A bp #[.pointer (some ⟨b,0,none⟩)] 104→dW B bp #[.pointer (some ⟨b,0,none⟩)] 104)∧(dW A bx #[Z ab x.f0.f0,Z ab x.f0.f1,Z ab x.f1.f0,Z ab x.f1.f1] 31→dW B bx #[Z ab x.f0.f0,Z ab x.f0.f1,Z ab x.f1.f0,Z ab x.f1.f1] 31)
theorem Mj.trans {w:ao} {bp bx b:Nat} {x:iA} {A B C:ao} (h:Mj w bp bx b x A B) (k:Mj w bp bx b x B C):Mj w bp bx b x A C:=⟨h.1.trans k.1,fun q=>k.2.1 (h.2.1 q),fun q=>k.2.2 (h.2.2 q)⟩
theorem Mj.put {w W0:ao} {bp bx b:Nat} {x:iA} (hw:w.heap.size≤W0.heap.size) (hp:bp < W0.heap.size) (hx:bx < W0.heap.size) (W:ao) (l:Nat) (o o':Obj) (hl:W0.heap.size≤l) (h:W.heap[l]? = some o) (h1:o.isCells = false) (h2:o.isWalk = false):Mj w bp bx b x W (W.putObj l o') :=
 ⟨belowK_b hw W l o o' hl h h1 h2,fun q=>(World.putObj_heap_other (by omega)).trans q,fun q=>(World.putObj_heap_other (by omega)).trans q⟩
theorem Mj.below {w:ao} {bp bx b:Nat} {x:iA} {A B:ao} (hw:w.heap.size≤A.heap.size) (h:Below A.heap.size A B):Mj w bp bx b x A B:=⟨h.mono hw,fun q=>dW.E8 q h,fun q=>dW.E8 q h⟩
theorem Mj.set {w:ao} {bp bx b:Nat} {x:iA} {A B:ao} (h:Mj w bp bx b x A B) {p:Addr} (hp:w.heap.size≤p.block) (h1:bp≠p.block) (h2:bx≠p.block) (u:Value):Mj w bp bx b x A (B.setCell p u):=⟨h.1.setCell hp u,fun q=>aM (h.2.1 q) h1 u,fun q=>aM (h.2.2 q) h2 u⟩
def mark (D_:Nat):Deferred:={ target:=.collected D_,args:=#[] }
def Marks (W:ao) (B:Nat) (Ds:List Nat):Prop:=Ds.Nodup∧∀ D_ ∈ Ds,B≤D_∧W.heap[D_]? = some (.deferred (some []))
theorem Marks.nil (W:ao) (B:Nat):Marks W B []:=⟨List.nodup_nil,fun D_ h=>by cases h⟩
theorem Marks.below {W W1:ao} {B:Nat} {Ds:List Nat} (h:Marks W B Ds) (hb:Below W.heap.size W W1):Marks W1 B Ds :=
 ⟨h.1,fun D_ hD=>⟨(h.2 D_ hD).1,(hb.block D_ (Array.getElem?_eq_some_iff.1 (h.2 D_ hD).2).1).trans (h.2 D_ hD).2⟩⟩
theorem Marks.cons {W:ao} {B D_:Nat} {Ds:List Nat} (h:Marks W B Ds) (hn:D_ ∉ Ds) (hB:B≤D_) (hD:W.heap[D_]? = some (.deferred (some []))):Marks W B (D_ :: Ds) :=
 ⟨List.nodup_cons.2 ⟨hn,h.1⟩,fun E hE=>by
  rcases List.mem_cons.1 hE with rfl|hE
  ·exact ⟨hB,hD⟩
  ·exact h.2 E hE⟩
theorem Marks.set {W:ao} {B:Nat} {Ds:List Nat} (h:Marks W B Ds) {g i:Nat} {cs:Array Value} {t:TypeId} (hg:W.heap[g]? = some (.cells cs t (0,0))) (u:Value):Marks (W.setCell ⟨g,i,none⟩ u) B Ds :=
 ⟨h.1,fun D_ hD=>⟨(h.2 D_ hD).1,(Below.heap_setCell _ _ _ D_ (fun e=>by
  have h2:=(h.2 D_ hD).2
  rw [show D_ = g from e,hg] at h2
  cases h2)).trans (h.2 D_ hD).2⟩⟩
theorem XH {β:Type} (B B0:Nat) (Ds:List Nat) (h:∀ D_ ∈ Ds,D_ < B):OwnFrom B (fun (_:β) W=>Marks W B0 Ds):=fun s X Y row hs hg hr =>
 ⟨hs.1,fun D_ hD=>⟨(hs.2 D_ hD).1,(hg.block D_ (Array.getElem?_eq_some_iff.1 (hs.2 D_ hD).2).1 (fun e=>by have h1:=(hr D_ e.symm).1;have h2:=h D_ hD;omega)).trans (hs.2 D_ hD).2⟩⟩
theorem BD {P:Program} {F:Fence} {n:Nat} {fn:Func} {tmps:Array Value} {R:Ending→ao→Prop} {B:Nat} (I:ao→Prop) (hI:∀ W D_,I W→B≤D_→W.heap[D_]? = some (.deferred (some []))→I (W.putObj D_ (.deferred none)))
 (hend:∀ W,I W→LeavesInM F n P fn tmps R [] .returning W):∀ (Ds:List Nat) (W:ao),Marks W B Ds→I W→LeavesInM F n P fn tmps R (Ds.map mark) .returning W
 |[],W,_,h=>hend W h
 |D_ :: Ds,W,hM,h=>by
  have hD:=hM.2 D_ List.mem_cons_self
  refine ⟨by simp,.inl ⟨D_,_,rfl,run_takeDeferred hD.2,?_⟩⟩
  refine BD I hI hend Ds _ ⟨(List.nodup_cons.1 hM.1).2,fun E hE=>?_⟩ (hI W D_ h hD.1 hD.2)
  have hE2:=hM.2 E (List.mem_cons_of_mem _ hE)
  have hne:E≠D_:=fun e=>(List.nodup_cons.1 hM.1).1 (e ▸ hE)
  exact ⟨hE2.1,(World.putObj_heap_other (fun e=>hne e)).trans hE2.2⟩
theorem adH {q l k c ll kk:Int} (h0:0≤q) (h1:q < ll) (h2:0≤l) (h3:l < kk) (h4:0≤c) (h5:c < k):0≤(q*kk+l)*k+c∧(q*kk+l)*k+c < ll*kk*k:=by
 have a0:0≤q*kk:=Int.mul_nonneg h0 (by omega)
 have a1:0≤(q*kk+l)*k:=Int.mul_nonneg (by omega) (by omega)
 have a2:(q+1)*kk≤ll*kk:=Int.mul_le_mul_of_nonneg_right (by omega) (by omega)
 rw [Int.add_mul,Int.one_mul] at a2
 have a3:(q*kk+l+1)*k≤ll*kk*k:=Int.mul_le_mul_of_nonneg_right (by omega) (by omega)
 rw [Int.add_mul,Int.one_mul] at a3
 omega
def mo (l:List iA):iA:=(vJ l).getD z31
theorem VI {l:List iA} {y:iA} (h:vJ l = none):vJ (l++[y]) = some y:=by rw [MR,h];rfl
theorem VJ {l:List iA} {y z:iA} (h:vJ l = some z):vJ (l++[y]) = some (AL z y):=by rw [MR,h];rfl
theorem aoU (a c:iA) (w:ao):Calls Try.prog 119 #[.agg #[Z ab a.f0.f0,Z ab a.f0.f1,Z ab a.f1.f0,Z ab a.f1.f1],.agg #[Z ab c.f0.f0,Z ab c.f0.f1,Z ab c.f1.f0,Z ab c.f1.f1]] w
 (yw (.agg #[Z ab (AL a c).f0.f0,Z ab (AL a c).f0.f1,Z ab (AL a c).f1.f0,Z ab (AL a c).f1.f1]) w) :=
 Ey.calls _ _ _ _ _ _ _ _ _ _ _ _ w (by unfold Ey.f AL;simp only [NY,Ez])
theorem aCy (b:Nat) (s:lK) (v:nW) (x:iA) (layer t u:Int) (w:ao) (hT:lC w b s v) (hS:Cm s) (hx:Yk s x) (hcu:(s.aC.length:Int) = s.slots*s.layers*(s.nx*s.ny)) (hl0:0≤layer) (hl1:layer < s.layers) (ht0:0≤t) (ht1:t < u) (ht2:u≤s.slots*s.slot):
 Calls Try.prog 70 #[.pointer (some ⟨b,0,none⟩),.agg #[Z ab x.f0.f0,Z ab x.f0.f1,Z ab x.f1.f0,Z ab x.f1.f1],Z ab layer,Z ab t,Z ab u] w (yw (.agg #[Z ab (XG s x layer t u).f0.f0,Z ab (XG s x layer t u).f0.f1,Z ab (XG s x layer t u).f1.f0,Z ab (XG s x layer t u).f1.f1]) w):=by
 have qj:=Try.underlying31
 have hxy:=je (show 0≤s.nx by have:=hS.nx;omega) hS.nx.2 (show 0≤s.ny by have:=hS.ny;omega) hS.ny.2
 have hss:=je (show 0≤s.slots by have:=hS.slots;omega) hS.slots.2 (show 0≤s.slot by have:=hS.slot;omega) hS.slot.2
 have hsl:=hS.slot
 have hso:=hS.slots
 have hla:=hS.layers
 have hcl:s.aC.length≤10000:=by
  have h1:=je (show 0≤s.slots by omega) hso.2 (show 0≤s.layers by omega) hla.2
  have h2:=je h1.1 h1.2 hxy.1 hxy.2
  omega
 have HCU:=Lib.hid hcu
 clear hcu
 have hj0:=Qh ht0 (show 1≤s.slot by omega)
 have hj1:=Qh (show 0≤u - 1 by omega) (show 1≤s.slot by omega)
 have hj2:(u - 1) / s.slot < s.slots:=by
  refine Int.ediv_lt_of_lt_mul (by omega) ?_
  omega
 have e0:Int.tdiv t s.slot = t / s.slot:=Int.tdiv_eq_ediv_of_nonneg ht0
 have e1:Int.tdiv (u - 1) s.slot = (u - 1) / s.slot:=Int.tdiv_eq_ediv_of_nonneg (by omega)
 have hne:s.slot≠0:=by omega
 have hbq:(s.slot == 0) = false:=beq_eq_false_iff_ne.2 hne
 have HR:Hid (XG s x layer t u = (vJ (kr s x layer (t / s.slot) ((u - 1) / s.slot+1 - t / s.slot).toNat)).getD z31):=Lib.hid rfl
 generalize t / s.slot = j0 at*
 generalize (u - 1) / s.slot = j1 at*
 have hT0:=hT
 obtain ⟨A7,c7,A8,c8,mT,_⟩:=hT0
 refine (callsIn_wide (n:=6)).1 ?_
 refine callsIn_of_wp_marks Try.func70 rfl trivial ?_ rfl
 simp only [Try.ntmps70,List.size_toArray,List.length_cons,List.length_nil,Nat.reduceAdd,Nat.reduceSub,Array.replicate_succ,Array.replicate_zero,List.push_toArray,List.append_toArray,List.nil_append,List.cons_append]
 gi_wp2_with fail
 have yz:=bO mT
 have m5:dW (((w.alloc (.cells #[.pointer (some ⟨b,0,none⟩)] 104)).alloc (.cells #[Z ab x.f0.f0,Z ab x.f0.f1,Z ab x.f1.f0,Z ab x.f1.f1] 31)).alloc (.cells #[Z ab 0,Z ab 0,Z ab 0,Z ab 0] 31)) (w.heap.size) #[.pointer (some ⟨b,0,none⟩)] 104:=(aa (aa aFd _) _)
 have m6:dW (((w.alloc (.cells #[.pointer (some ⟨b,0,none⟩)] 104)).alloc (.cells #[Z ab x.f0.f0,Z ab x.f0.f1,Z ab x.f1.f0,Z ab x.f1.f1] 31)).alloc (.cells #[Z ab 0,Z ab 0,Z ab 0,Z ab 0] 31)) (w.heap.size+1) #[Z ab x.f0.f0,Z ab x.f0.f1,Z ab x.f1.f0,Z ab x.f1.f1] 31:=(aa aFe _)
 have m10:dW (((w.alloc (.cells #[.pointer (some ⟨b,0,none⟩)] 104)).alloc (.cells #[Z ab x.f0.f0,Z ab x.f0.f1,Z ab x.f1.f0,Z ab x.f1.f1] 31)).alloc (.cells #[Z ab 0,Z ab 0,Z ab 0,Z ab 0] 31)) (w.heap.size+1+1) #[Z ab 0,Z ab 0,Z ab 0,Z ab 0] 31:=(by have h_:=eB ((w.alloc (.cells #[.pointer (some ⟨b,0,none⟩)] 104)).alloc (.cells #[Z ab x.f0.f0,Z ab x.f0.f1,Z ab x.f1.f0,Z ab x.f1.f1] 31)) (.cells #[Z ab 0,Z ab 0,Z ab 0,Z ab 0] 31);first|exact h_|(simp only [World.size_alloc] at h_;exact h_))
 replace mT:dW (((w.alloc (.cells #[.pointer (some ⟨b,0,none⟩)] 104)).alloc (.cells #[Z ab x.f0.f0,Z ab x.f0.f1,Z ab x.f1.f0,Z ab x.f1.f1] 31)).alloc (.cells #[Z ab 0,Z ab 0,Z ab 0,Z ab 0] 31)) b #[Z ab s.nx,Z ab s.ny,Z ab s.cell,Z ab s.slot,Z ab s.slots,Z ab s.layers,Z ab s.most,.slice A7 s.bf.length c7,.slice A8 s.aC.length c8,Z ab v.speed,Z ab v.bq,Z ab v.use.f0,Z ab v.use.f1,Z ab v.aV.f0,Z ab v.aV.f1,Z ab v.reserve] 110:=(aa (aa (aa mT _) _) _)
 have mB:Below w.heap.size w (((w.alloc (.cells #[.pointer (some ⟨b,0,none⟩)] 104)).alloc (.cells #[Z ab x.f0.f0,Z ab x.f0.f1,Z ab x.f1.f0,Z ab x.f1.f1] 31)).alloc (.cells #[Z ab 0,Z ab 0,Z ab 0,Z ab 0] 31)):=(aH (aH (aH (Below.refl w.heap.size w) _) _) _)
 have kZ:w.heap.size≤w.heap.size:=Nat.le_refl _
 generalize qQ:(((w.alloc (.cells #[.pointer (some ⟨b,0,none⟩)] 104)).alloc (.cells #[Z ab x.f0.f0,Z ab x.f0.f1,Z ab x.f1.f0,Z ab x.f1.f1] 31)).alloc (.cells #[Z ab 0,Z ab 0,Z ab 0,Z ab 0] 31)) = W1 at mT m5 m6 m10 mB ⊢
 clear qQ
 generalize hg5:w.heap.size = g5 at m5 m6 m10 ⊢
 have ZM:b≠g5:=by omega
 have aoM:g5≠b:=ZM.symm
 have hG5:w.heap.size≤g5:=by omega
 generalize hg6:g5+1 = g6 at m6 m10 ⊢
 have Qn:b≠g6:=by omega
 have JA:g5≠g6:=by omega
 have agC:g6≠b:=Qn.symm
 have ZT:g6≠g5:=JA.symm
 have hG6:w.heap.size≤g6:=by omega
 generalize agD:g6+1 = g10 at m10 ⊢
 have SH:b≠g10:=by omega
 have pF:g5≠g10:=by omega
 have pG:g6≠g10:=by omega
 have aiP:g10≠b:=SH.symm
 have ZU:g10≠g5:=pF.symm
 have ZV:g10≠g6:=pG.symm
 have qU:w.heap.size≤g10:=by omega
 clear kZ yz
 try clear agD
 try clear hg6
 try clear hg5
 have sD:w.heap.size≤W1.heap.size:=mB.size
 refine Fy (wpIn_wide.2 ?_)
 replace mT:=ag mT
 replace m5:=ag m5
 replace m6:=ag m6
 replace m10:=ag m10
 replace mB:=bF mB
 have wq:an (s.nx*s.ny) = s.nx*s.ny:=by unfold an;omega
 refine jV (n:=12) (S:=fun w'=>w'.cell? ⟨g5,0,none⟩ = some (.pointer (some ⟨b,0,none⟩))∧w'.cell? ⟨b,0,none⟩ = some (Z ab s.nx)∧w'.cell? ⟨b,1,none⟩ = some (Z ab s.ny)) (ds:=[]) #[al,al,al,al,al,al,al,al,al,al,al,al] aT rfl rfl ⟨((ae m5 0).trans rfl),((ae mT 0).trans rfl),((ae mT 1).trans rfl)⟩ (fun hHeld=>?_)
 generalize hWd:World.drew _ = Wx at mB mT m5 m6 m10 hHeld ⊢
 clear hWd
 refine iT (i:=0) (N:=some 17) aT hHeld ?_
 refine dR (i:=1) (N:=some 18) aT ?_
 refine dR (i:=2) (N:=some 19) aT ?_
 refine dR (i:=3) (N:=some 20) aT ?_
 refine iT (i:=4) (N:=some 21) aT hHeld ?_
 refine iT (i:=5) (N:=some 22) aT hHeld ?_
 refine dR (i:=6) (N:=some 23) aT ?_
 refine dR (i:=7) (N:=some 24) aT ?_
 refine dR (i:=8) (N:=some 25) aT ?_
 refine iT (i:=9) (N:=some 26) aT hHeld ?_
 refine dR (i:=10) (N:=some 27) aT ?_
 refine dR (i:=11) (N:=some 11) aT ?_
 refine mi aT ?_
 clear wq hHeld
 refine Hf ?_
 have R4:=(ae m5 0).trans rfl
 have cT3:=(ae mT 3).trans rfl
 have cq:∀ o_,(Wx.alloc o_).cell? ⟨g5,0,none⟩ = some (.pointer (some ⟨b,0,none⟩)):=fun o_=>(ae (aa m5 o_) 0).trans rfl
 have cq3:∀ o_,(Wx.alloc o_).cell? ⟨b,3,none⟩ = some (Z ab s.slot):=fun o_=>(ae (aa mT o_) 3).trans rfl
 gi_wp2_with fail
 clear cq cq3 R4 cT3
 have adA:w.heap.size≤Wx.heap.size:=mB.size
 have yz:=bO mT
 have Qk:=bO m5
 have ZW:=bO m6
 have VK:=bO m10
 have m12:dW (Wx.alloc (.cells #[.bool true] 4)) (Wx.heap.size) #[.bool true] 4:=(by have h_:=eB Wx (.cells #[.bool true] 4);first|exact h_|(simp only [World.size_alloc] at h_;exact h_))
 replace mT:dW (Wx.alloc (.cells #[.bool true] 4)) b #[Z ab s.nx,Z ab s.ny,Z ab s.cell,Z ab s.slot,Z ab s.slots,Z ab s.layers,Z ab s.most,.slice A7 s.bf.length c7,.slice A8 s.aC.length c8,Z ab v.speed,Z ab v.bq,Z ab v.use.f0,Z ab v.use.f1,Z ab v.aV.f0,Z ab v.aV.f1,Z ab v.reserve] 110:=(aa mT _)
 replace m5:dW (Wx.alloc (.cells #[.bool true] 4)) g5 #[.pointer (some ⟨b,0,none⟩)] 104:=(aa m5 _)
 replace m6:dW (Wx.alloc (.cells #[.bool true] 4)) g6 #[Z ab x.f0.f0,Z ab x.f0.f1,Z ab x.f1.f0,Z ab x.f1.f1] 31:=(aa m6 _)
 replace m10:dW (Wx.alloc (.cells #[.bool true] 4)) g10 #[Z ab 0,Z ab 0,Z ab 0,Z ab 0] 31:=(aa m10 _)
 replace mB:Below w.heap.size w (Wx.alloc (.cells #[.bool true] 4)):=(aH mB _)
 have kZ:w.heap.size≤Wx.heap.size:=adA
 generalize qQ:(Wx.alloc (.cells #[.bool true] 4)) = W2 at mT m5 m6 m10 m12 mB ⊢
 clear qQ
 generalize agE:Wx.heap.size = g12 at m12 ⊢
 have rQ:b≠g12:=by omega
 have Hl:g5≠g12:=by omega
 have qf:g6≠g12:=by omega
 have nz:g10≠g12:=by omega
 have ZX:g12≠b:=rQ.symm
 have atF:g12≠g5:=Hl.symm
 have atG:g12≠g6:=qf.symm
 have lF:g12≠g10:=nz.symm
 have JB:w.heap.size≤g12:=by omega
 clear kZ yz Qk ZW VK
 try clear agE
 have vI:w.heap.size≤W2.heap.size:=mB.size
 refine wpIn_loop (fun a W=>∃ (q:Nat) (j:Int) (Ds:List Nat) (u_:Nat→Value),a = { tmps:=#[(u_ 0),(u_ 1),Z ab layer,(u_ 3),Z ab u,.pointer (some ⟨g5,0,none⟩),.pointer (some ⟨g6,0,none⟩),(u_ 7),(u_ 8),(u_ 9),.pointer (some ⟨g10,0,none⟩),Z ab (s.nx*s.ny),.pointer (some ⟨g12,0,none⟩),Z ab j,(u_ 14),(u_ 15),(u_ 16),(u_ 17),(u_ 18),(u_ 19),(u_ 20),(u_ 21),(u_ 22),(u_ 23),(u_ 24),(u_ 25),(u_ 26),(u_ 27),(u_ 28),(u_ 29),(u_ 30),(u_ 31),(u_ 32),(u_ 33),(u_ 34),(u_ 35),(u_ 36),(u_ 37),(u_ 38),(u_ 39),(u_ 40),(u_ 41),(u_ 42),(u_ 43),(u_ 44),(u_ 45),(u_ 46),(u_ 47),(u_ 48),(u_ 49),(u_ 50),(u_ 51),(u_ 52),(u_ 53),(u_ 54),(u_ 55),(u_ 56),(u_ 57),(u_ 58),(u_ 59),(u_ 60),(u_ 61),(u_ 62),(u_ 63),(u_ 64),(u_ 65),(u_ 66),(u_ 67),(u_ 68),(u_ 69),(u_ 70),(u_ 71),(u_ 72),(u_ 73),(u_ 74),(u_ 75),(u_ 76),(u_ 77),(u_ 78),(u_ 79),(u_ 80),(u_ 81),(u_ 82),(u_ 83),(u_ 84),(u_ 85),(u_ 86),(u_ 87),(u_ 88),(u_ 89),(u_ 90),(u_ 91)],defers:=Ds.map mark }∧Hid (j = j0+(q:Int))∧q≤(j1+1 - j0).toNat∧Marks W w.heap.size Ds∧dW W g5 #[.pointer (some ⟨b,0,none⟩)] 104∧dW W g6 #[Z ab x.f0.f0,Z ab x.f0.f1,Z ab x.f1.f0,Z ab x.f1.f1] 31∧dW W g10 #[Z ab (mo (kr s x layer j0 q)).f0.f0,Z ab (mo (kr s x layer j0 q)).f0.f1,Z ab (mo (kr s x layer j0 q)).f1.f0,Z ab (mo (kr s x layer j0 q)).f1.f1] 31∧dW W g12 #[.bool (vJ (kr s x layer j0 q)).isNone] 4∧Below w.heap.size w W) (fun a _=>(j1+1 - intOf (a.tmps.getD 13 undef)).toNat) ⟨0,j0,[],(fun k=>(#[.pointer (some ⟨b,0,none⟩),.agg #[Z ab x.f0.f0,Z ab x.f0.f1,Z ab x.f1.f0,Z ab x.f1.f1],Z ab layer,Z ab t,Z ab u,.pointer (some ⟨g5,0,none⟩),.pointer (some ⟨g6,0,none⟩),undef,undef,undef,.pointer (some ⟨g10,0,none⟩),Z ab (s.nx*s.ny),.pointer (some ⟨g12,0,none⟩),Z ab j0,undef,undef,undef,.pointer (some ⟨b,0,none⟩),.pointer (some ⟨b,0,none⟩),.pointer (some ⟨b,0,none⟩),.pointer (some ⟨b,0,none⟩),Z ab s.nx,.pointer (some ⟨b,0,none⟩),.pointer (some ⟨b,0,none⟩),.pointer (some ⟨b,0,none⟩),.pointer (some ⟨b,1,none⟩),Z ab s.ny,Z ab (an (s.nx*s.ny)),Z ab t,.pointer (some ⟨b,0,none⟩),.pointer (some ⟨b,0,none⟩),.pointer (some ⟨b,0,none⟩),.pointer (some ⟨b,3,none⟩),Z ab s.slot,Z ab j0,undef,undef,undef,undef,undef,undef,undef,undef,undef,undef,undef,undef,undef,undef,undef,undef,undef,undef,undef,undef,undef,undef,undef,undef,undef,undef,undef,undef,undef,undef,undef,undef,undef,undef,undef,undef,undef,undef,undef,undef,undef,undef,undef,undef,undef,undef,undef,undef,undef,undef,undef,undef,undef,undef,undef,undef,undef]:Array Value).getD k undef),rfl,Lib.hid (by omega),Nat.zero_le _,Marks.nil _ _,m5,m6,m10,m12,mB⟩ ?_
 clear m5 m6 m10 m12 mB mT
 rintro a_ W ⟨q,j,Ds,u_,rfl,HJ,hq,hM,m5,m6,m10,m12,mB⟩
 have aWI:w.heap.size≤W.heap.size:=mB.size
 obtain ⟨A7,c7,A8,c8,mT,_,_,hc8,Rx⟩:=hT.below mB
 have cT3:=(ae mT 3).trans rfl
 have cT5:=(ae mT 5).trans rfl
 have R4:=(ae m5 0).trans rfl
 have ZY:∀ o_,(W.alloc o_).cell? ⟨g6,0,none⟩ = some (Z ab x.f0.f0):=fun o_=>(ae (aa m6 o_) 0).trans rfl
 have ZZ:∀ o_,(W.alloc o_).cell? ⟨g6,1,none⟩ = some (Z ab x.f0.f1):=fun o_=>(ae (aa m6 o_) 1).trans rfl
 have Z0:∀ o_,(W.alloc o_).cell? ⟨g6,2,none⟩ = some (Z ab x.f1.f0):=fun o_=>(ae (aa m6 o_) 2).trans rfl
 have Z4:∀ o_,(W.alloc o_).cell? ⟨g6,3,none⟩ = some (Z ab x.f1.f1):=fun o_=>(ae (aa m6 o_) 3).trans rfl
 have VE:∀ o_,(W.alloc o_).cell? ⟨g5,0,none⟩ = some (.pointer (some ⟨b,0,none⟩)):=fun o_=>(ae (aa m5 o_) 0).trans rfl
 have hjj:j0≤j:=by have:=HJ.out;omega
 by_cases hlt:j≤j1
 case neg =>
  have hqe:q = (j1+1 - j0).toNat:=by have:=HJ.out;omega
  have HQ:=Lib.hid hqe
  clear hqe VE ZY ZZ Z0 Z4
  have HRR:=HR.out
  rw [← HQ.out] at HRR
  have HR2:=Lib.hid HRR
  clear HRR
  generalize (kr s x layer j0 q) = L at*
  have NZ:=(ae m10 0).trans rfl
  have adJ:=bg m10 0
  have N7:=(ae m10 1).trans rfl
  have adK:=bg m10 1
  have N8:=(ae m10 2).trans rfl
  have adL:=bg m10 2
  have N9:=(ae m10 3).trans rfl
  have adM:=bg m10 3
  skip
  gi_wp2
  exact BD (fun X=>dW X g10 #[Z ab (mo L).f0.f0,Z ab (mo L).f0.f1,Z ab (mo L).f1.f0,Z ab (mo L).f1.f1] 31∧Below w.heap.size w X) (fun X D_ h hB hD=>⟨(World.putObj_heap_other (fun e=>by have h1:=h.1;unfold dW at h1;rw [e,hD] at h1;cases h1)).trans h.1,h.2.trans (belowK_b (w:=w) (Nat.le_refl _) X D_ _ _ hB hD rfl rfl)⟩) (fun X h=>⟨_,results_cell_row rfl _ _ g10 31 #[Z ab (mo L).f0.f0,Z ab (mo L).f0.f1,Z ab (mo L).f1.f0,Z ab (mo L).f1.f1] (0,0) _ rfl h.1 Try.underlying31 rfl aT,by rw [HR2.out];rfl,h.2⟩) Ds _ (Marks.set (Marks.set (Marks.set (Marks.set hM m10 (i:=0) _) (aK m10 0 (Z ab (mo L).f0.f0) rfl) (i:=1) _) (aK (aK m10 0 (Z ab (mo L).f0.f0) rfl) 1 (Z ab (mo L).f0.f1) rfl) (i:=2) _) (aK (aK (aK m10 0 (Z ab (mo L).f0.f0) rfl) 1 (Z ab (mo L).f0.f1) rfl) 2 (Z ab (mo L).f1.f0) rfl) (i:=3) _) ⟨(aK (aK (aK (aK m10 0 (Z ab (mo L).f0.f0) rfl) 1 (Z ab (mo L).f0.f1) rfl) 2 (Z ab (mo L).f1.f0) rfl) 3 (Z ab (mo L).f1.f1) rfl),(Below.setCell (p:=⟨g10,3,none⟩) (Below.setCell (p:=⟨g10,2,none⟩) (Below.setCell (p:=⟨g10,1,none⟩) (Below.setCell (p:=⟨g10,0,none⟩) mB qU _) qU _) qU _) qU _)⟩
 case pos =>
  skip
  have hq2:q+1≤(j1+1 - j0).toNat:=by have:=HJ.out;omega
  have HJ2:Hid (j+1 = j0+((q+1:Nat):Int)):=Lib.hid (by have:=HJ.out;omega)
  have p1:=je (show 0≤j by omega) (show j≤15 by omega) (show 0≤s.layers by omega) hla.2
  have p2:=je (show 0≤j*s.layers+layer by omega) (show j*s.layers+layer≤50 by omega) hxy.1 hxy.2
  gi_wp2_with fail
  refine ⟨trivial,(callsIn_wide.2 (Ry _ _ _)).mono ?_⟩
  rintro e W_ ⟨rfl,rfl⟩
  gi_wp2_with fail
  clear cT3 cT5 R4 VE ZY ZZ Z0 Z4
  have a5c:=hS.nx
  have hM0:Marks (((W.alloc (.cells #[Z ab ((j*s.layers+layer)*(s.nx*s.ny))] 3)).alloc (.cells #[.pointer (some ⟨b,0,none⟩)] 104)).alloc (.cells #[Z ab x.f0.f0,Z ab x.f0.f1,Z ab x.f1.f0,Z ab x.f1.f1] 31)) w.heap.size Ds:=hM.below (aH (aH (aH (Below.refl _ W) _) _) _)
  have yz:=bO mT
  have Qk:=bO m5
  have ZW:=bO m6
  have VK:=bO m10
  have Oa:=bO m12
  have m14:dW (((W.alloc (.cells #[Z ab ((j*s.layers+layer)*(s.nx*s.ny))] 3)).alloc (.cells #[.pointer (some ⟨b,0,none⟩)] 104)).alloc (.cells #[Z ab x.f0.f0,Z ab x.f0.f1,Z ab x.f1.f0,Z ab x.f1.f1] 31)) (W.heap.size) #[Z ab ((j*s.layers+layer)*(s.nx*s.ny))] 3:=(aa (aa (by have h_:=eB W (.cells #[Z ab ((j*s.layers+layer)*(s.nx*s.ny))] 3);first|exact h_|(simp only [World.size_alloc] at h_;exact h_)) _) _)
  have mP:dW (((W.alloc (.cells #[Z ab ((j*s.layers+layer)*(s.nx*s.ny))] 3)).alloc (.cells #[.pointer (some ⟨b,0,none⟩)] 104)).alloc (.cells #[Z ab x.f0.f0,Z ab x.f0.f1,Z ab x.f1.f0,Z ab x.f1.f1] 31)) (W.heap.size+1) #[.pointer (some ⟨b,0,none⟩)] 104:=(aa (by have h_:=eB (W.alloc (.cells #[Z ab ((j*s.layers+layer)*(s.nx*s.ny))] 3)) (.cells #[.pointer (some ⟨b,0,none⟩)] 104);first|exact h_|(simp only [World.size_alloc] at h_;exact h_)) _)
  have mX:dW (((W.alloc (.cells #[Z ab ((j*s.layers+layer)*(s.nx*s.ny))] 3)).alloc (.cells #[.pointer (some ⟨b,0,none⟩)] 104)).alloc (.cells #[Z ab x.f0.f0,Z ab x.f0.f1,Z ab x.f1.f0,Z ab x.f1.f1] 31)) (W.heap.size+1+1) #[Z ab x.f0.f0,Z ab x.f0.f1,Z ab x.f1.f0,Z ab x.f1.f1] 31:=(by have h_:=eB ((W.alloc (.cells #[Z ab ((j*s.layers+layer)*(s.nx*s.ny))] 3)).alloc (.cells #[.pointer (some ⟨b,0,none⟩)] 104)) (.cells #[Z ab x.f0.f0,Z ab x.f0.f1,Z ab x.f1.f0,Z ab x.f1.f1] 31);first|exact h_|(simp only [World.size_alloc] at h_;exact h_))
  replace mT:dW (((W.alloc (.cells #[Z ab ((j*s.layers+layer)*(s.nx*s.ny))] 3)).alloc (.cells #[.pointer (some ⟨b,0,none⟩)] 104)).alloc (.cells #[Z ab x.f0.f0,Z ab x.f0.f1,Z ab x.f1.f0,Z ab x.f1.f1] 31)) b #[Z ab s.nx,Z ab s.ny,Z ab s.cell,Z ab s.slot,Z ab s.slots,Z ab s.layers,Z ab s.most,.slice A7 s.bf.length c7,.slice A8 s.aC.length c8,Z ab v.speed,Z ab v.bq,Z ab v.use.f0,Z ab v.use.f1,Z ab v.aV.f0,Z ab v.aV.f1,Z ab v.reserve] 110:=(aa (aa (aa mT _) _) _)
  replace m5:dW (((W.alloc (.cells #[Z ab ((j*s.layers+layer)*(s.nx*s.ny))] 3)).alloc (.cells #[.pointer (some ⟨b,0,none⟩)] 104)).alloc (.cells #[Z ab x.f0.f0,Z ab x.f0.f1,Z ab x.f1.f0,Z ab x.f1.f1] 31)) g5 #[.pointer (some ⟨b,0,none⟩)] 104:=(aa (aa (aa m5 _) _) _)
  replace m6:dW (((W.alloc (.cells #[Z ab ((j*s.layers+layer)*(s.nx*s.ny))] 3)).alloc (.cells #[.pointer (some ⟨b,0,none⟩)] 104)).alloc (.cells #[Z ab x.f0.f0,Z ab x.f0.f1,Z ab x.f1.f0,Z ab x.f1.f1] 31)) g6 #[Z ab x.f0.f0,Z ab x.f0.f1,Z ab x.f1.f0,Z ab x.f1.f1] 31:=(aa (aa (aa m6 _) _) _)
  replace m10:dW (((W.alloc (.cells #[Z ab ((j*s.layers+layer)*(s.nx*s.ny))] 3)).alloc (.cells #[.pointer (some ⟨b,0,none⟩)] 104)).alloc (.cells #[Z ab x.f0.f0,Z ab x.f0.f1,Z ab x.f1.f0,Z ab x.f1.f1] 31)) g10 #[Z ab (mo (kr s x layer j0 q)).f0.f0,Z ab (mo (kr s x layer j0 q)).f0.f1,Z ab (mo (kr s x layer j0 q)).f1.f0,Z ab (mo (kr s x layer j0 q)).f1.f1] 31:=(aa (aa (aa m10 _) _) _)
  replace m12:dW (((W.alloc (.cells #[Z ab ((j*s.layers+layer)*(s.nx*s.ny))] 3)).alloc (.cells #[.pointer (some ⟨b,0,none⟩)] 104)).alloc (.cells #[Z ab x.f0.f0,Z ab x.f0.f1,Z ab x.f1.f0,Z ab x.f1.f1] 31)) g12 #[.bool (vJ (kr s x layer j0 q)).isNone] 4:=(aa (aa (aa m12 _) _) _)
  replace mB:Below w.heap.size w (((W.alloc (.cells #[Z ab ((j*s.layers+layer)*(s.nx*s.ny))] 3)).alloc (.cells #[.pointer (some ⟨b,0,none⟩)] 104)).alloc (.cells #[Z ab x.f0.f0,Z ab x.f0.f1,Z ab x.f1.f0,Z ab x.f1.f1] 31)):=(aH (aH (aH mB _) _) _)
  have kZ:w.heap.size≤W.heap.size:=aWI
  generalize qQ:(((W.alloc (.cells #[Z ab ((j*s.layers+layer)*(s.nx*s.ny))] 3)).alloc (.cells #[.pointer (some ⟨b,0,none⟩)] 104)).alloc (.cells #[Z ab x.f0.f0,Z ab x.f0.f1,Z ab x.f1.f0,Z ab x.f1.f1] 31)) = W0 at mT m5 m6 m10 m12 m14 mP mX mB hM0 ⊢
  clear qQ
  generalize agF:W.heap.size = g14 at m14 mP mX ⊢
  have Hm:b≠g14:=by omega
  have Ob:g5≠g14:=by omega
  have aiQ:g6≠g14:=by omega
  have adN:g10≠g14:=by omega
  have adO:g12≠g14:=by omega
  have Oc:g14≠b:=Hm.symm
  have oU:g14≠g5:=Ob.symm
  have atH:g14≠g6:=aiQ.symm
  have qV:g14≠g10:=adN.symm
  have FD:g14≠g12:=adO.symm
  have aCz:w.heap.size≤g14:=by omega
  generalize hgP:g14+1 = gP at mP mX ⊢
  have aoW:b≠gP:=by omega
  have aoX:g5≠gP:=by omega
  have aoY:g6≠gP:=by omega
  have aiR:g10≠gP:=by omega
  have aiS:g12≠gP:=by omega
  have aiT:g14≠gP:=by omega
  have aCA:gP≠b:=aoW.symm
  have aCB:gP≠g5:=aoX.symm
  have aCC:gP≠g6:=aoY.symm
  have uV:gP≠g10:=aiR.symm
  have K3:gP≠g12:=aiS.symm
  have atJ:gP≠g14:=aiT.symm
  have hGP:w.heap.size≤gP:=by omega
  generalize hgX:gP+1 = gX at mX ⊢
  have VL:b≠gX:=by omega
  have aoZ:g5≠gX:=by omega
  have ao0:g6≠gX:=by omega
  have aiU:g10≠gX:=by omega
  have aiV:g12≠gX:=by omega
  have K7:g14≠gX:=by omega
  have ZR:gP≠gX:=by omega
  have Z5:gX≠b:=VL.symm
  have aCD:gX≠g5:=aoZ.symm
  have aCE:gX≠g6:=ao0.symm
  have uW:gX≠g10:=aiU.symm
  have K8:gX≠g12:=aiV.symm
  have K9:gX≠g14:=K7.symm
  have aoT:gX≠gP:=ZR.symm
  have hGX:w.heap.size≤gX:=by omega
  clear kZ yz Qk ZW VK Oa
  try clear hgX
  try clear hgP
  try clear agF
  have Jc:w.heap.size≤W0.heap.size:=mB.size
  have hDs:∀ D_ ∈ Ds,D_ < W0.heap.size:=fun D_ h=>(Array.getElem?_eq_some_iff.1 (hM0.2 D_ h).2).1
  have HN:Hid (g5≠g10∧g5≠g12∧g6≠g10∧g6≠g12∧g14≠g10∧g14≠g12∧g10≠g12∧g12≠g10∧gP≠g10∧gX≠g10∧gP≠g12∧gX≠g12):=Lib.hid ⟨pF,Hl,pG,qf,qV,FD,nz,lF,uV,uW,K3,K8⟩
  try clear ZM Qn SH rQ Hm
  try clear aoW
  try clear VL
  try clear aoM
  try clear JA pF Hl Ob
  try clear aoX
  try clear aoZ
  try clear agC
  try clear ZT pG qf aiQ
  try clear aoY
  try clear ao0
  try clear aiP
  try clear ZU ZV nz adN
  try clear aiR
  try clear aiU
  try clear ZX
  try clear atF atG lF adO
  try clear aiS
  try clear aiV
  try clear Oc
  try clear oU atH qV FD
  try clear aiT
  try clear K7
  try clear aCA
  try clear aCB aCC uV K3 atJ
  try clear ZR
  try clear Z5
  try clear aCD aCE uW K8 K9
  try clear aoT
  refine wpIn_rangeFunc_ownH rfl (by omega) (gf:=135) (lb:=#[.pointer (some ⟨gP,0,none⟩),.pointer (some ⟨gX,0,none⟩)]) rfl trivial (enters_of Try.func135 aT rfl)
   (encs:=fun c:FC s=>#[Z ab c.1]) (Kp:=Mj w gP gX b x) (S:=aoQ s x) (Sp:=atC s x) (N:=(sF s x).length) (w0:=W0)
   (fun l J Jx X_ hW hJ _ hY h0=>Rz 5 (by omega) l gP gX w b s v x hT hS hx (Mj w gP gX b x) (fun A B h hE=>⟨hE.1.trans h.1,h.2.1 hE.2.1,h.2.2 hE.2.2⟩) J Jx hY (fun f X Y h hB=>hJ f X Y none h ⟨hB.os,hB.tape,hB.output,hB.size,fun k hk _=>hB.block k hk⟩ (fun r e=>by cases e)) X_ ⟨bI mB hW,dW.E8 mP hW,dW.E8 mX hW⟩ h0) Mj.trans (Mj.put Jc (bO mP) (bO mX)) (Below.refl _ _) (fun _=>rfl)
   (fun pre W=>dW W g5 #[.pointer (some ⟨b,0,none⟩)] 104∧dW W g6 #[Z ab x.f0.f0,Z ab x.f0.f1,Z ab x.f1.f0,Z ab x.f1.f1] 31∧dW W g14 #[Z ab ((j*s.layers+layer)*(s.nx*s.ny))] 3∧dW W g10 #[Z ab (mo (kr s x layer j0 q++(pre.map fun c=>AA s layer j c.1))).f0.f0,Z ab (mo (kr s x layer j0 q++(pre.map fun c=>AA s layer j c.1))).f0.f1,Z ab (mo (kr s x layer j0 q++(pre.map fun c=>AA s layer j c.1))).f1.f0,Z ab (mo (kr s x layer j0 q++(pre.map fun c=>AA s layer j c.1))).f1.f1] 31∧dW W g12 #[.bool (vJ (kr s x layer j0 q++(pre.map fun c=>AA s layer j c.1))).isNone] 4∧Marks W w.heap.size Ds∧Below w.heap.size w W)
   (fun c pre W=>False)
   (OwnFrom.and (sG _ _ (fun _=>_) _) (OwnFrom.and (sG _ _ (fun _=>_) _) (OwnFrom.and (sG _ _ (fun _=>_) _) (OwnFrom.and (sG _ _ (fun pre:List (FC s)=>#[Z ab (mo (kr s x layer j0 q++(pre.map fun c=>AA s layer j c.1))).f0.f0,Z ab (mo (kr s x layer j0 q++(pre.map fun c=>AA s layer j c.1))).f0.f1,Z ab (mo (kr s x layer j0 q++(pre.map fun c=>AA s layer j c.1))).f1.f0,Z ab (mo (kr s x layer j0 q++(pre.map fun c=>AA s layer j c.1))).f1.f1]) _) (OwnFrom.and (sG _ _ (fun pre:List (FC s)=>#[.bool (vJ (kr s x layer j0 q++(pre.map fun c=>AA s layer j c.1))).isNone]) _) (OwnFrom.and (XH _ _ Ds hDs) (ownFrom_below (by omega) (by omega))))))))
   (fun c pre X Y row hs hg hr=>hs)
   ⟨m5,m6,m14,by rw [List.map_nil,List.append_nil];exact m10,by rw [List.map_nil,List.append_nil];exact m12,hM0,mB⟩
   (fun c a' W=>∃ u_:Nat→Value,a' = { tmps:=#[(u_ 0),(u_ 1),(u_ 2),(u_ 3),(u_ 4),.pointer (some ⟨g5,0,none⟩),(u_ 6),(u_ 7),(u_ 8),(u_ 9),.pointer (some ⟨g10,0,none⟩),(u_ 11),.pointer (some ⟨g12,0,none⟩),(u_ 13),.pointer (some ⟨g14,0,none⟩),Z ab c.1,(u_ 16),(u_ 17),(u_ 18),(u_ 19),(u_ 20),(u_ 21),(u_ 22),(u_ 23),(u_ 24),(u_ 25),(u_ 26),(u_ 27),(u_ 28),(u_ 29),(u_ 30),(u_ 31),(u_ 32),(u_ 33),(u_ 34),(u_ 35),(u_ 36),(u_ 37),(u_ 38),(u_ 39),(u_ 40),(u_ 41),(u_ 42),(u_ 43),(u_ 44),(u_ 45),(u_ 46),(u_ 47),(u_ 48),(u_ 49),(u_ 50),(u_ 51),(u_ 52),(u_ 53),(u_ 54),(u_ 55),(u_ 56),(u_ 57),(u_ 58),(u_ 59),(u_ 60),(u_ 61),(u_ 62),(u_ 63),(u_ 64),(u_ 65),(u_ 66),(u_ 67),(u_ 68),(u_ 69),(u_ 70),(u_ 71),(u_ 72),(u_ 73),(u_ 74),(u_ 75),(u_ 76),(u_ 77),(u_ 78),(u_ 79),(u_ 80),(u_ 81),(u_ 82),(u_ 83),(u_ 84),(u_ 85),(u_ 86),(u_ 87),(u_ 88),(u_ 89),(u_ 90),(u_ 91)],defers:=[] })
   (fun c a' s X Y row hs hg hr=>hs) ?assign ?body ?done ?stop
  case assign =>
   rintro l pre c X_ K hI hK
   gi_wp2
   exact hK _ _ ((KeepsOthers.refl X_).from _) (Mj.below hI.2.2.2.2.2.2.size (Below.refl _ _)) hI ⟨(fun k=>(#[(u_ 0),(u_ 1),Z ab layer,(u_ 3),Z ab u,.pointer (some ⟨g5,0,none⟩),.pointer (some ⟨g6,0,none⟩),(u_ 7),(u_ 8),(u_ 9),.pointer (some ⟨g10,0,none⟩),Z ab (s.nx*s.ny),.pointer (some ⟨g12,0,none⟩),Z ab j,.pointer (some ⟨g14,0,none⟩),Z ab c.1,(u_ 16),(u_ 17),(u_ 18),(u_ 19),(u_ 20),(u_ 21),(u_ 22),(u_ 23),(u_ 24),(u_ 25),(u_ 26),(u_ 27),(u_ 28),(u_ 29),(u_ 30),(u_ 31),(u_ 32),(u_ 33),(u_ 34),Z ab j,Z ab u,Z ab (u - 1),.pointer (some ⟨b,0,none⟩),.pointer (some ⟨b,0,none⟩),.pointer (some ⟨b,0,none⟩),.pointer (some ⟨b,3,none⟩),Z ab s.slot,Z ab j1,.bool true,(u_ 45),(u_ 46),Z ab j,.pointer (some ⟨b,0,none⟩),.pointer (some ⟨b,0,none⟩),.pointer (some ⟨b,0,none⟩),.pointer (some ⟨b,5,none⟩),Z ab s.layers,Z ab (j*s.layers),Z ab layer,Z ab (j*s.layers+layer),Z ab (s.nx*s.ny),Z ab ((j*s.layers+layer)*(s.nx*s.ny)),.pointer (some ⟨b,0,none⟩),.agg #[Z ab x.f0.f0,Z ab x.f0.f1,Z ab x.f1.f0,Z ab x.f1.f1],.func (.func 135) #[] #[.pointer (some ⟨gP,0,none⟩),.pointer (some ⟨gX,0,none⟩)],Z ab c.1,(u_ 62),(u_ 63),(u_ 64),(u_ 65),(u_ 66),(u_ 67),(u_ 68),(u_ 69),(u_ 70),(u_ 71),(u_ 72),(u_ 73),(u_ 74),(u_ 75),(u_ 76),(u_ 77),(u_ 78),(u_ 79),(u_ 80),(u_ 81),(u_ 82),(u_ 83),(u_ 84),(u_ 85),(u_ 86),(u_ 87),(u_ 88),(u_ 89),(u_ 90),(u_ 91)]:Array Value).getD k undef),rfl⟩
  case stop =>
   rintro D_ c pre X_ hD hp h hK
   exact h.elim
  case done =>
   rintro D_ xs X_ hD hxs ⟨m5,m6,m14,m10,m12,hM,mB⟩ hK
   have hL:kr s x layer j0 q++xs.map (fun c=>AA s layer j c.1) = kr s x layer j0 (q+1):=by rw [adG];unfold slotL;rw [← (show xs.map Subtype.val = sF s x from hxs),List.map_map,← HJ.out];rfl
   rw [hL] at m10 m12
   clear hL
   have hM2:=hM.cons (fun h=>absurd (hDs D_ h) (Nat.not_lt.2 hD)) (Nat.le_trans Jc hD) hK
   gi_wp2
   skip
   exact ⟨⟨q+1,j+1,D_ :: Ds,(fun k=>(#[(u_ 0),(u_ 1),Z ab layer,(u_ 3),Z ab u,.pointer (some ⟨g5,0,none⟩),.pointer (some ⟨g6,0,none⟩),(u_ 7),(u_ 8),(u_ 9),.pointer (some ⟨g10,0,none⟩),Z ab (s.nx*s.ny),.pointer (some ⟨g12,0,none⟩),Z ab (j+1),.pointer (some ⟨g14,0,none⟩),(u_ 15),(u_ 16),(u_ 17),(u_ 18),(u_ 19),(u_ 20),(u_ 21),(u_ 22),(u_ 23),(u_ 24),(u_ 25),(u_ 26),(u_ 27),(u_ 28),(u_ 29),(u_ 30),(u_ 31),(u_ 32),(u_ 33),(u_ 34),Z ab j,Z ab u,Z ab (u - 1),.pointer (some ⟨b,0,none⟩),.pointer (some ⟨b,0,none⟩),.pointer (some ⟨b,0,none⟩),.pointer (some ⟨b,3,none⟩),Z ab s.slot,Z ab j1,.bool true,Z ab j,Z ab (j+1),Z ab j,.pointer (some ⟨b,0,none⟩),.pointer (some ⟨b,0,none⟩),.pointer (some ⟨b,0,none⟩),.pointer (some ⟨b,5,none⟩),Z ab s.layers,Z ab (j*s.layers),Z ab layer,Z ab (j*s.layers+layer),Z ab (s.nx*s.ny),Z ab ((j*s.layers+layer)*(s.nx*s.ny)),.pointer (some ⟨b,0,none⟩),.agg #[Z ab x.f0.f0,Z ab x.f0.f1,Z ab x.f1.f0,Z ab x.f1.f1],.func (.func 135) #[] #[.pointer (some ⟨gP,0,none⟩),.pointer (some ⟨gX,0,none⟩)],(u_ 61),(u_ 62),(u_ 63),(u_ 64),(u_ 65),(u_ 66),(u_ 67),(u_ 68),(u_ 69),(u_ 70),(u_ 71),(u_ 72),(u_ 73),(u_ 74),(u_ 75),(u_ 76),(u_ 77),(u_ 78),(u_ 79),(u_ 80),(u_ 81),(u_ 82),(u_ 83),(u_ 84),(u_ 85),(u_ 86),(u_ 87),(u_ 88),(u_ 89),(u_ 90),(u_ 91)]:Array Value).getD k undef),rfl,HJ2,hq2,hM2,m5,m6,m10,m12,mB⟩,by simp [intOf];omega⟩
  case body =>
   skip
   rintro l pre c a_ X_ hlW ⟨r,hr⟩ ⟨m5,m6,m14,m10,m12,hM,mB⟩ ⟨u_,rfl⟩ hlen
   have hXs:W0.heap.size≤X_.heap.size:=Nat.le_trans hlW (Nat.le_of_lt (bO hr))
   clear hr
   have hN:Below X_.heap.size X_ X_:=Below.refl _ _
   obtain ⟨A7,c7,A8,c8,mT,_,_,hc8,Rx⟩:=hT.below mB
   have hidx:=adH (q:=j) (l:=layer) (k:=s.nx*s.ny) (c:=c.1) (ll:=s.slots) (kk:=s.layers) (by omega) (by omega) hl0 hl1 c.2.1 c.2.2
   rw [← HCU.out] at hidx
   have HY:Hid (AA s layer j c.1 = ⟨(bE s.aC ((j*s.layers+layer)*(s.nx*s.ny)+c.1)).f0,(bE s.aC ((j*s.layers+layer)*(s.nx*s.ny)+c.1)).f1⟩):=Lib.hid rfl
   obtain ⟨hi0,hi1⟩:=hidx
   obtain ⟨ad,e_,hy0,hy1,hy2,hy3⟩:=GI Rx _ hi0 hi1
   cases e_
   clear Rx
   generalize bE s.aC ((j*s.layers+layer)*(s.nx*s.ny)+c.1) = y at*
   generalize (j*s.layers+layer)*(s.nx*s.ny) = R at*
   have wR:an (R+c.1) = R+c.1:=by unfold an;have:=c.2;omega
   have hm0:vJ (kr s x layer j0 q++(pre.map fun c=>AA s layer j c.1)) = vJ (kr s x layer j0 q++(pre.map fun c=>AA s layer j c.1)):=rfl
   generalize aF0:(kr s x layer j0 q++(pre.map fun c=>AA s layer j c.1)) = L at*
   have hLL:=Lib.hid aF0
   clear hm0 aF0
   gi_wp2_with fail
   replace mT:=ag mT
   replace m5:=ag m5
   replace m6:=ag m6
   replace m10:=ag m10
   replace m12:=ag m12
   replace m14:=ag m14
   replace mB:=bF mB
   replace hy0:=((bF (Below.refl X_.heap.size X_)).cell (bd X_ _ hy0)).trans hy0
   replace hy1:=((bF (Below.refl X_.heap.size X_)).cell (bd X_ _ hy1)).trans hy1
   replace hy2:=((bF (Below.refl X_.heap.size X_)).cell (bd X_ _ hy2)).trans hy2
   replace hy3:=((bF (Below.refl X_.heap.size X_)).cell (bd X_ _ hy3)).trans hy3
   replace hM:=hM.below (bF (Below.refl _ X_))
   replace hN:=bF hN
   refine Vy (m:=25) (S:=fun w'=>w'.cell? ⟨g5,0,none⟩ = some (.pointer (some ⟨b,0,none⟩))∧w'.cell? ⟨g14,0,none⟩ = some (Z ab R)∧w'.cell? ⟨b,8,none⟩ = some (.slice (some ad) s.aC.length c8)∧w'.cell? (ad.add ((R+c.1).toNat*4)) = some (Z ab y.f0.f0)∧w'.cell? ⟨(ad.add ((R+c.1).toNat*4)).block,(ad.add ((R+c.1).toNat*4)).off+1,none⟩ = some (Z ab y.f0.f1)∧w'.cell? ⟨(ad.add ((R+c.1).toNat*4)).block,(ad.add ((R+c.1).toNat*4)).off+2,none⟩ = some (Z ab y.f1.f0)∧w'.cell? ⟨(ad.add ((R+c.1).toNat*4)).block,(ad.add ((R+c.1).toNat*4)).off+3,none⟩ = some (Z ab y.f1.f1)) (ds:=[24]) #[al,al,al,al,al,al,al,al,al,al,al,al,al,al,al,al,al,al,al,al,al,al,al,al,al] aT (ZJ (RY ZI)) aT rfl rfl ⟨((ae m5 0).trans rfl),((ae m14 0).trans rfl),((ae mT 8).trans rfl),hy0,hy1,hy2,hy3⟩ (fun hHeld=>?_)
   generalize hWd:World.drew _ = Wx at mB mT m5 m6 m10 m12 m14 hM hN hy0 hy1 hy2 hy3 hHeld ⊢
   clear hWd
   refine dR (i:=6) (N:=some 68) aT ?_
   refine dR (i:=17) (N:=some 79) aT ?_
   refine iT (i:=0) (N:=some 62) aT hHeld ?_
   refine dR (i:=1) (N:=some 63) aT ?_
   refine dR (i:=2) (N:=some 64) aT ?_
   refine dR (i:=3) (N:=some 65) aT ?_
   refine iT (i:=4) (N:=some 66) aT hHeld ?_
   refine iT (i:=5) (N:=some 67) aT hHeld ?_
   refine dR (i:=7) (N:=some 69) aT ?_
   refine dR (i:=8) (N:=some 70) aT ?_
   refine dR (i:=9) (N:=some 71) aT ?_
   refine iT (i:=10) (N:=some 72) aT hHeld ?_
   refine iT (i:=11) (N:=some 73) aT hHeld ?_
   refine dR (i:=12) (N:=some 74) aT ?_
   refine dR (i:=13) (N:=some 75) aT ?_
   refine dR (i:=14) (N:=some 76) aT ?_
   refine iT (i:=15) (N:=some 77) aT hHeld ?_
   refine iT (i:=16) (N:=some 78) aT hHeld ?_
   refine dR (i:=18) (N:=some 80) aT ?_
   refine dR (i:=19) (N:=some 81) aT ?_
   refine dR (i:=20) (N:=some 82) aT ?_
   refine iT (i:=21) (N:=some 83) aT hHeld ?_
   refine dR (i:=22) (N:=some 84) aT ?_
   refine iW (i:=23) (N:=some 16) #[ac,ac,ac,ac,ac,ac,ac,ac,ac,ac,ac,ac,ac,ac,ac,ac,ac,ac,ac,ac,ac,ac,ac,ac,al] rfl rfl aT (by decide) (fun K hK=>?_)
   refine GG (w1:=?_) (v:=?_) (by rfl) rfl ?_ ?_
   rotate_left 2
   ·go_simp
    constructor
    ·rfl
    ·rfl
   refine hK.out _ _ ⟨((ae (aa m5 (.cells #[Z ab 0,Z ab 0,Z ab 0,Z ab 0] 31)) 0).trans rfl),((ae (aa m14 (.cells #[Z ab 0,Z ab 0,Z ab 0,Z ab 0] 31)) 0).trans rfl),((ae (aa mT (.cells #[Z ab 0,Z ab 0,Z ab 0,Z ab 0] 31)) 8).trans rfl),((aH (Below.refl Wx.heap.size Wx) (.cells #[Z ab 0,Z ab 0,Z ab 0,Z ab 0] 31)).cell (bd Wx _ hy0)).trans hy0,((aH (Below.refl Wx.heap.size Wx) (.cells #[Z ab 0,Z ab 0,Z ab 0,Z ab 0] 31)).cell (bd Wx _ hy1)).trans hy1,((aH (Below.refl Wx.heap.size Wx) (.cells #[Z ab 0,Z ab 0,Z ab 0,Z ab 0] 31)).cell (bd Wx _ hy2)).trans hy2,((aH (Below.refl Wx.heap.size Wx) (.cells #[Z ab 0,Z ab 0,Z ab 0,Z ab 0] 31)).cell (bd Wx _ hy3)).trans hy3⟩ (fun hHeld=>?_)
   clear hK K
   refine dQ al8 ?_
   refine Mf (i:=24) (N:=none) #[ac,ac,ac,ac,ac,ac,ac,ac,ac,ac,ac,ac,ac,ac,ac,ac,ac,ac,ac,ac,ac,ac,ac,ac,ac] rfl rfl aT (by decide) (fun K hK=>?_)
   have PR:=eB Wx (.cells #[Z ab 0,Z ab 0,Z ab 0,Z ab 0] 31)
   have XD:=bg PR 0
   have XE:=bg PR 1
   have atK:=bg PR 2
   have atL:=bg PR 3
   have RZ:=(ae PR 0).trans rfl
   have XF:=(ae PR 1).trans rfl
   have atM:=(ae PR 2).trans rfl
   have atN:=(ae PR 3).trans rfl
   refine vF (w1:=?_) (by rfl) rfl ?_ ?_
   rotate_left
   ·go_simp
    rfl
   refine hK.out _ _ ?_
   clear hK K
   refine mi aT ?_
   try clear hHeld
   skip
   clear hy0 hy1 hy2 hy3 wR
   have adA:w.heap.size≤Wx.heap.size:=mB.size
   have Od:W0.heap.size≤Wx.heap.size:=Nat.le_trans hXs hN.size
   replace hM:=hM.below (aH (Below.refl _ Wx) (.cells #[Z ab y.f0.f0,Z ab y.f0.f1,Z ab y.f1.f0,Z ab y.f1.f1] 31))
   replace hN:=bI hN (aH (Below.refl _ Wx) (.cells #[Z ab y.f0.f0,Z ab y.f0.f1,Z ab y.f1.f0,Z ab y.f1.f1] 31))
   have yz:=bO mT
   have Qk:=bO m5
   have ZW:=bO m6
   have VK:=bO m10
   have Oa:=bO m12
   have adP:=bO m14
   have m16:dW (Wx.alloc (.cells #[Z ab y.f0.f0,Z ab y.f0.f1,Z ab y.f1.f0,Z ab y.f1.f1] 31)) (Wx.heap.size) #[Z ab y.f0.f0,Z ab y.f0.f1,Z ab y.f1.f0,Z ab y.f1.f1] 31:=(by have h_:=eB Wx (.cells #[Z ab y.f0.f0,Z ab y.f0.f1,Z ab y.f1.f0,Z ab y.f1.f1] 31);first|exact h_|(simp only [World.size_alloc] at h_;exact h_))
   replace mT:dW (Wx.alloc (.cells #[Z ab y.f0.f0,Z ab y.f0.f1,Z ab y.f1.f0,Z ab y.f1.f1] 31)) b #[Z ab s.nx,Z ab s.ny,Z ab s.cell,Z ab s.slot,Z ab s.slots,Z ab s.layers,Z ab s.most,.slice A7 s.bf.length c7,.slice (some ad) s.aC.length c8,Z ab v.speed,Z ab v.bq,Z ab v.use.f0,Z ab v.use.f1,Z ab v.aV.f0,Z ab v.aV.f1,Z ab v.reserve] 110:=(aa mT _)
   replace m5:dW (Wx.alloc (.cells #[Z ab y.f0.f0,Z ab y.f0.f1,Z ab y.f1.f0,Z ab y.f1.f1] 31)) g5 #[.pointer (some ⟨b,0,none⟩)] 104:=(aa m5 _)
   replace m6:dW (Wx.alloc (.cells #[Z ab y.f0.f0,Z ab y.f0.f1,Z ab y.f1.f0,Z ab y.f1.f1] 31)) g6 #[Z ab x.f0.f0,Z ab x.f0.f1,Z ab x.f1.f0,Z ab x.f1.f1] 31:=(aa m6 _)
   replace m10:dW (Wx.alloc (.cells #[Z ab y.f0.f0,Z ab y.f0.f1,Z ab y.f1.f0,Z ab y.f1.f1] 31)) g10 #[Z ab (mo L).f0.f0,Z ab (mo L).f0.f1,Z ab (mo L).f1.f0,Z ab (mo L).f1.f1] 31:=(aa m10 _)
   replace m12:dW (Wx.alloc (.cells #[Z ab y.f0.f0,Z ab y.f0.f1,Z ab y.f1.f0,Z ab y.f1.f1] 31)) g12 #[.bool (vJ L).isNone] 4:=(aa m12 _)
   replace m14:dW (Wx.alloc (.cells #[Z ab y.f0.f0,Z ab y.f0.f1,Z ab y.f1.f0,Z ab y.f1.f1] 31)) g14 #[Z ab R] 3:=(aa m14 _)
   replace mB:Below w.heap.size w (Wx.alloc (.cells #[Z ab y.f0.f0,Z ab y.f0.f1,Z ab y.f1.f0,Z ab y.f1.f1] 31)):=(aH mB _)
   have kZ:w.heap.size≤Wx.heap.size:=adA
   generalize qQ:(Wx.alloc (.cells #[Z ab y.f0.f0,Z ab y.f0.f1,Z ab y.f1.f0,Z ab y.f1.f1] 31)) = W3 at mT m5 m6 m10 m12 m14 m16 mB hM hN ⊢
   clear qQ
   generalize ao1:Wx.heap.size = g16 at m16 Od ⊢
   have Ho:b≠g16:=by omega
   have BF:g5≠g16:=by omega
   have BG:g6≠g16:=by omega
   have mq:g10≠g16:=by omega
   have wU:g12≠g16:=by omega
   have nX:g14≠g16:=by omega
   have Oe:g16≠b:=Ho.symm
   have atO:g16≠g5:=BF.symm
   have atP:g16≠g6:=BG.symm
   have aF1:g16≠g10:=mq.symm
   have aF2:g16≠g12:=wU.symm
   have Co:g16≠g14:=nX.symm
   have VM:w.heap.size≤g16:=by omega
   clear kZ yz Qk ZW VK Oa adP
   try clear ao1
   have FB:w.heap.size≤W3.heap.size:=mB.size
   have hNS:=HN.out
   obtain ⟨_,_,_,_,_,_,nz,lF,_⟩:=hNS
   have HN2:Hid (g5≠g16∧g6≠g16∧g14≠g16):=Lib.hid ⟨BF,BG,nX⟩
   try clear Ho Oe
   try clear BF atO
   try clear BG atP
   try clear nX Co
   have hd_:1≤6 - 1 - 1:=by decide
   have hmx:Try.prog.follows .mixedOrders = true:=by kernel_rfl
   cases hO:vJ L with
   |none =>
    rw [hO] at m12
    have HO:=Lib.hid hO
    clear hO
    obtain ⟨VN,ao2,ao3,ao4⟩:=rY m16
    obtain ⟨NZ,N7,N8,N9⟩:=rY m10
    have VO:=(ae m12 0).trans rfl
    obtain ⟨adJ,adK,adL,adM⟩:=asC m10
    have aF3:=bg m12 0
    skip
    gi_wp2
    clear nz lF
    obtain ⟨pF,Hl,pG,qf,qV,FD,nz,lF,uV,uW,K3,K8⟩:=HN.out
    obtain ⟨BF,BG,nX⟩:=HN2.out
    have hE:AA s layer j c.1 = ⟨y.f0,y.f1⟩:=HY.out
    have hmap:kr s x layer j0 q++List.map (fun c=>AA s layer j c.1) (pre++[c]) = L++[(⟨y.f0,y.f1⟩:iA)]:=by rw [List.map_append,List.map_singleton,← List.append_assoc,hLL.out,hE]
    refine ⟨(o7 hN).trans ((((((KeepsOthers.setCell _ _ _).trans (KeepsOthers.setCell _ _ _)).trans (KeepsOthers.setCell _ _ _)).trans (KeepsOthers.setCell _ _ _)).trans (KeepsOthers.setCell _ _ _)).from _),(Mj.set (p:=⟨g12,0,none⟩) (Mj.set (p:=⟨g10,3,none⟩) (Mj.set (p:=⟨g10,2,none⟩) (Mj.set (p:=⟨g10,1,none⟩) (Mj.set (p:=⟨g10,0,none⟩) (Mj.below (Nat.le_trans Jc hXs) hN) qU uV uW _) qU uV uW _) qU uV uW _) qU uV uW _) JB K3 K8 _),?_⟩
    dsimp only
    rw [hmap]
    unfold mo
    rw [VI HO.out]
    exact ⟨(aM (p:=⟨g12,0,none⟩) (aM (p:=⟨g10,3,none⟩) (aM (p:=⟨g10,2,none⟩) (aM (p:=⟨g10,1,none⟩) (aM (p:=⟨g10,0,none⟩) m5 pF _) pF _) pF _) pF _) Hl _),(aM (p:=⟨g12,0,none⟩) (aM (p:=⟨g10,3,none⟩) (aM (p:=⟨g10,2,none⟩) (aM (p:=⟨g10,1,none⟩) (aM (p:=⟨g10,0,none⟩) m6 pG _) pG _) pG _) pG _) qf _),(aM (p:=⟨g12,0,none⟩) (aM (p:=⟨g10,3,none⟩) (aM (p:=⟨g10,2,none⟩) (aM (p:=⟨g10,1,none⟩) (aM (p:=⟨g10,0,none⟩) m14 qV _) qV _) qV _) qV _) FD _),(aM (p:=⟨g12,0,none⟩) (aK (aK (aK (aK m10 0 (Z ab y.f0.f0) rfl) 1 (Z ab y.f0.f1) rfl) 2 (Z ab y.f1.f0) rfl) 3 (Z ab y.f1.f1) rfl) nz _),(aK (aM (p:=⟨g10,3,none⟩) (aM (p:=⟨g10,2,none⟩) (aM (p:=⟨g10,1,none⟩) (aM (p:=⟨g10,0,none⟩) m12 lF _) lF _) lF _) lF _) 0 (.bool false) rfl),(Marks.set (Marks.set (Marks.set (Marks.set (Marks.set hM m10 (i:=0) _) (aK m10 0 (Z ab y.f0.f0) rfl) (i:=1) _) (aK (aK m10 0 (Z ab y.f0.f0) rfl) 1 (Z ab y.f0.f1) rfl) (i:=2) _) (aK (aK (aK m10 0 (Z ab y.f0.f0) rfl) 1 (Z ab y.f0.f1) rfl) 2 (Z ab y.f1.f0) rfl) (i:=3) _) (aM (p:=⟨g10,3,none⟩) (aM (p:=⟨g10,2,none⟩) (aM (p:=⟨g10,1,none⟩) (aM (p:=⟨g10,0,none⟩) m12 lF _) lF _) lF _) lF _) (i:=0) _),(Below.setCell (p:=⟨g12,0,none⟩) (Below.setCell (p:=⟨g10,3,none⟩) (Below.setCell (p:=⟨g10,2,none⟩) (Below.setCell (p:=⟨g10,1,none⟩) (Below.setCell (p:=⟨g10,0,none⟩) mB qU _) qU _) qU _) qU _) JB _)⟩
   |some z =>
    have hz_:mo L = z:=by unfold mo;rw [hO];rfl
    rw [hO] at m12
    rw [hz_] at m10
    have HO:=Lib.hid hO
    clear hO hz_
    obtain ⟨VN,ao2,ao3,ao4⟩:=rY m16
    obtain ⟨NZ,N7,N8,N9⟩:=rY m10
    have VO:=(ae m12 0).trans rfl
    gi_wp2_with fail
    clear VN ao2 ao3 ao4 NZ N7 N8 N9 VO
    have hcon:=aoU z ⟨y.f0,y.f1⟩ W3
    refine ⟨trivial,(CallsIn.inRound l (callsIn_wide.2 hcon)).mono ?_⟩
    clear hcon
    rintro e W4 ⟨rfl,hb⟩
    generalize hH:AL z ⟨y.f0,y.f1⟩ = h_ at*
    have HH:=Lib.hid hH
    clear hH
    replace hM:=hM.below hb
    replace hN:=bI hN hb
    replace mT:=ah mT hb
    replace m5:=ah m5 hb
    replace m6:=ah m6 hb
    replace m10:=ah m10 hb
    replace m12:=ah m12 hb
    replace m14:=ah m14 hb
    replace m16:=ah m16 hb
    replace mB:=bI mB hb
    clear hb
    have Vz:w.heap.size≤W4.heap.size:=mB.size
    obtain ⟨VN,ao2,ao3,ao4⟩:=rY m16
    obtain ⟨NZ,N7,N8,N9⟩:=rY m10
    have VO:=(ae m12 0).trans rfl
    obtain ⟨a0t,a0u,a0v,a0w⟩:=asC m16
    obtain ⟨adJ,adK,adL,adM⟩:=asC m10
    have aF3:=bg m12 0
    skip
    gi_wp2
    clear nz lF
    obtain ⟨pF,Hl,pG,qf,qV,FD,nz,lF,uV,uW,K3,K8⟩:=HN.out
    obtain ⟨BF,BG,nX⟩:=HN2.out
    have hE:AA s layer j c.1 = ⟨y.f0,y.f1⟩:=HY.out
    have hmap:kr s x layer j0 q++List.map (fun c=>AA s layer j c.1) (pre++[c]) = L++[(⟨y.f0,y.f1⟩:iA)]:=by rw [List.map_append,List.map_singleton,← List.append_assoc,hLL.out,hE]
    refine ⟨(o7 hN).trans ((((((((((KeepsOthers.setCell _ _ _).trans (KeepsOthers.setCell _ _ _)).trans (KeepsOthers.setCell _ _ _)).trans (KeepsOthers.setCell _ _ _)).trans (KeepsOthers.setCell _ _ _)).trans (KeepsOthers.setCell _ _ _)).trans (KeepsOthers.setCell _ _ _)).trans (KeepsOthers.setCell _ _ _)).trans (KeepsOthers.setCell _ _ _)).from _),(Mj.set (p:=⟨g12,0,none⟩) (Mj.set (p:=⟨g10,3,none⟩) (Mj.set (p:=⟨g10,2,none⟩) (Mj.set (p:=⟨g10,1,none⟩) (Mj.set (p:=⟨g10,0,none⟩) (Mj.set (p:=⟨g16,3,none⟩) (Mj.set (p:=⟨g16,2,none⟩) (Mj.set (p:=⟨g16,1,none⟩) (Mj.set (p:=⟨g16,0,none⟩) (Mj.below (Nat.le_trans Jc hXs) hN) VM (Nat.ne_of_lt (Nat.lt_of_lt_of_le (bO mP) Od)) (Nat.ne_of_lt (Nat.lt_of_lt_of_le (bO mX) Od)) _) VM (Nat.ne_of_lt (Nat.lt_of_lt_of_le (bO mP) Od)) (Nat.ne_of_lt (Nat.lt_of_lt_of_le (bO mX) Od)) _) VM (Nat.ne_of_lt (Nat.lt_of_lt_of_le (bO mP) Od)) (Nat.ne_of_lt (Nat.lt_of_lt_of_le (bO mX) Od)) _) VM (Nat.ne_of_lt (Nat.lt_of_lt_of_le (bO mP) Od)) (Nat.ne_of_lt (Nat.lt_of_lt_of_le (bO mX) Od)) _) qU uV uW _) qU uV uW _) qU uV uW _) qU uV uW _) JB K3 K8 _),?_⟩
    dsimp only
    rw [hmap]
    unfold mo
    rw [VJ HO.out]
    rw [HH.out]
    exact ⟨(aM (p:=⟨g12,0,none⟩) (aM (p:=⟨g10,3,none⟩) (aM (p:=⟨g10,2,none⟩) (aM (p:=⟨g10,1,none⟩) (aM (p:=⟨g10,0,none⟩) (aM (p:=⟨g16,3,none⟩) (aM (p:=⟨g16,2,none⟩) (aM (p:=⟨g16,1,none⟩) (aM (p:=⟨g16,0,none⟩) m5 BF _) BF _) BF _) BF _) pF _) pF _) pF _) pF _) Hl _),(aM (p:=⟨g12,0,none⟩) (aM (p:=⟨g10,3,none⟩) (aM (p:=⟨g10,2,none⟩) (aM (p:=⟨g10,1,none⟩) (aM (p:=⟨g10,0,none⟩) (aM (p:=⟨g16,3,none⟩) (aM (p:=⟨g16,2,none⟩) (aM (p:=⟨g16,1,none⟩) (aM (p:=⟨g16,0,none⟩) m6 BG _) BG _) BG _) BG _) pG _) pG _) pG _) pG _) qf _),(aM (p:=⟨g12,0,none⟩) (aM (p:=⟨g10,3,none⟩) (aM (p:=⟨g10,2,none⟩) (aM (p:=⟨g10,1,none⟩) (aM (p:=⟨g10,0,none⟩) (aM (p:=⟨g16,3,none⟩) (aM (p:=⟨g16,2,none⟩) (aM (p:=⟨g16,1,none⟩) (aM (p:=⟨g16,0,none⟩) m14 nX _) nX _) nX _) nX _) qV _) qV _) qV _) qV _) FD _),(aM (p:=⟨g12,0,none⟩) (aK (aK (aK (aK (aM (p:=⟨g16,3,none⟩) (aM (p:=⟨g16,2,none⟩) (aM (p:=⟨g16,1,none⟩) (aM (p:=⟨g16,0,none⟩) m10 mq _) mq _) mq _) mq _) 0 (Z ab h_.f0.f0) rfl) 1 (Z ab h_.f0.f1) rfl) 2 (Z ab h_.f1.f0) rfl) 3 (Z ab h_.f1.f1) rfl) nz _),(aK (aM (p:=⟨g10,3,none⟩) (aM (p:=⟨g10,2,none⟩) (aM (p:=⟨g10,1,none⟩) (aM (p:=⟨g10,0,none⟩) (aM (p:=⟨g16,3,none⟩) (aM (p:=⟨g16,2,none⟩) (aM (p:=⟨g16,1,none⟩) (aM (p:=⟨g16,0,none⟩) m12 wU _) wU _) wU _) wU _) lF _) lF _) lF _) lF _) 0 (.bool false) rfl),(Marks.set (Marks.set (Marks.set (Marks.set (Marks.set (Marks.set (Marks.set (Marks.set (Marks.set hM m16 (i:=0) _) (aK m16 0 (Z ab h_.f0.f0) rfl) (i:=1) _) (aK (aK m16 0 (Z ab h_.f0.f0) rfl) 1 (Z ab h_.f0.f1) rfl) (i:=2) _) (aK (aK (aK m16 0 (Z ab h_.f0.f0) rfl) 1 (Z ab h_.f0.f1) rfl) 2 (Z ab h_.f1.f0) rfl) (i:=3) _) (aM (p:=⟨g16,3,none⟩) (aM (p:=⟨g16,2,none⟩) (aM (p:=⟨g16,1,none⟩) (aM (p:=⟨g16,0,none⟩) m10 mq _) mq _) mq _) mq _) (i:=0) _) (aK (aM (p:=⟨g16,3,none⟩) (aM (p:=⟨g16,2,none⟩) (aM (p:=⟨g16,1,none⟩) (aM (p:=⟨g16,0,none⟩) m10 mq _) mq _) mq _) mq _) 0 (Z ab h_.f0.f0) rfl) (i:=1) _) (aK (aK (aM (p:=⟨g16,3,none⟩) (aM (p:=⟨g16,2,none⟩) (aM (p:=⟨g16,1,none⟩) (aM (p:=⟨g16,0,none⟩) m10 mq _) mq _) mq _) mq _) 0 (Z ab h_.f0.f0) rfl) 1 (Z ab h_.f0.f1) rfl) (i:=2) _) (aK (aK (aK (aM (p:=⟨g16,3,none⟩) (aM (p:=⟨g16,2,none⟩) (aM (p:=⟨g16,1,none⟩) (aM (p:=⟨g16,0,none⟩) m10 mq _) mq _) mq _) mq _) 0 (Z ab h_.f0.f0) rfl) 1 (Z ab h_.f0.f1) rfl) 2 (Z ab h_.f1.f0) rfl) (i:=3) _) (aM (p:=⟨g10,3,none⟩) (aM (p:=⟨g10,2,none⟩) (aM (p:=⟨g10,1,none⟩) (aM (p:=⟨g10,0,none⟩) (aM (p:=⟨g16,3,none⟩) (aM (p:=⟨g16,2,none⟩) (aM (p:=⟨g16,1,none⟩) (aM (p:=⟨g16,0,none⟩) m12 wU _) wU _) wU _) wU _) lF _) lF _) lF _) lF _) (i:=0) _),(Below.setCell (p:=⟨g12,0,none⟩) (Below.setCell (p:=⟨g10,3,none⟩) (Below.setCell (p:=⟨g10,2,none⟩) (Below.setCell (p:=⟨g10,1,none⟩) (Below.setCell (p:=⟨g10,0,none⟩) (Below.setCell (p:=⟨g16,3,none⟩) (Below.setCell (p:=⟨g16,2,none⟩) (Below.setCell (p:=⟨g16,1,none⟩) (Below.setCell (p:=⟨g16,0,none⟩) mB VM _) VM _) VM _) VM _) qU _) qU _) qU _) qU _) JB _)⟩
end Go.Proofs.Ytmhaiihjfgfaoaa.Gl
end
section
namespace Go.Proofs.Ytmhaiihjfgfaoaa.Gl
open Go.RowKit Go.Shelf Go.Proofs.YtmhaiihjfgfaoaaW.bu Go.Proofs.YtmhaiihjfgfaoaaW.dB Go.Proofs.YtmhaiihjfgfaoaaW.ek Go.Proofs.Ytmhaiihjfgfaoaa.Pr Go.Proofs.YtmhaiihjfgfaoaaW.Round
attribute [local go_sem] iq iw jq jr iy
def BB (y:iA):Prop:=(-5000≤y.f0.f0∧y.f0.f0≤5000)∧(-5000≤y.f0.f1∧y.f0.f1≤5000)∧(-5000≤y.f1.f0∧y.f1.f0≤5000)∧(-5000≤y.f1.f1∧y.f1.f1≤5000)∧y.f0.f0≤y.f0.f1∧y.f1.f0≤y.f1.f1
theorem aiW:∀ (l:List iA) (o:Option iA),(∀ z,o = some z→BB z)→(∀ y ∈ l,BB y)→∀ z,l.foldl adF o = some z→BB z
 |[],o,h,_=>h
 |y :: l,o,h,hl=>by
  refine aiW l _ (fun z hz=>?_) (fun q hq=>hl q (List.mem_cons_of_mem _ hq))
  have hy:=hl y List.mem_cons_self
  unfold adF at hz
  cases o with
  |none=>cases hz;exact hy
  |some q =>
   cases hz
   have hq:=h q rfl
   unfold BB AL at*
   dsimp only
   omega
def aCF (s:lK):Prop:=∀ c ∈ s.aC,(-5000≤c.f0.f0∧c.f0.f0≤5000)∧(-5000≤c.f0.f1∧c.f0.f1≤5000)∧(-5000≤c.f1.f0∧c.f1.f0≤5000)∧(-5000≤c.f1.f1∧c.f1.f1≤5000)∧c.f0.f0≤c.f0.f1∧c.f1.f0≤c.f1.f1
theorem ao5 {s:lK} (hc:aCF s) (x:iA) (layer t u:Int):BB (XG s x layer t u):=by
 unfold XG
 have hz:BB z31:=by unfold BB z31 z27;decide
 cases h:vJ (kr s x layer (t / s.slot) ((u - 1) / s.slot+1 - t / s.slot).toNat) with
 |none=>exact hz
 |some z =>
  refine aiW _ none (fun z h=>by cases h) (fun y hy=>?_) z h
  obtain ⟨r,_,hy⟩:=List.mem_flatMap.1 hy
  obtain ⟨c,_,rfl⟩:=List.mem_map.1 hy
  unfold AA
  generalize ((t / s.slot+(r:Int))*s.layers+layer)*(s.nx*s.ny)+c = i
  have:bE s.aC i ∈ s.aC∨bE s.aC i = z40:=by
   unfold bE
   rw [List.getD_eq_getElem?_getD]
   cases h2:s.aC[i.toNat]? with
   |none=>exact .inr rfl
   |some q=>exact .inl (List.mem_of_getElem? h2)
  rcases this with h2|h2
  ·exact hc _ h2
  ·rw [h2]
   unfold BB z40 z27
   decide
def fO (s:lK) (v:nW) (x:iA):iA:=⟨⟨x.f0.f0 - ((v.speed+s.most)*v.bq+999) / 1000,x.f0.f1+((v.speed+s.most)*v.bq+999) / 1000⟩,⟨x.f1.f0 - ((v.speed+s.most)*v.bq+999) / 1000,x.f1.f1+((v.speed+s.most)*v.bq+999) / 1000⟩⟩
def pW (s:lK) (v:nW) (x:iA) (t:Int):Int:=if (iX s (fO s v x) && uy s t (t+v.bq)) = true then 0 else 5
def Hq (s:lK) (v:nW) (x:iA) (t:Int):iA:=if pW s v x t = 0 then fO s v x else z31
def JC (x:iA):Prop:=(-1099511627776≤x.f0.f0∧x.f0.f0≤1099511627776)∧(-1099511627776≤x.f0.f1∧x.f0.f1≤1099511627776)∧(-1099511627776≤x.f1.f0∧x.f1.f0≤1099511627776)∧(-1099511627776≤x.f1.f1∧x.f1.f1≤1099511627776)
theorem ams (b:Nat) (s:lK) (v:nW) (x:iA) (t:Int) (w:ao) (hT:lC w b s v) (hS:Cm s) (hV:Fz v) (hx:JC x) (ht0:0≤t) (ht1:t≤1099511627776):
 Calls Try.prog 99 #[.pointer (some ⟨b,0,none⟩),.agg #[Z ab x.f0.f0,Z ab x.f0.f1,Z ab x.f1.f0,Z ab x.f1.f1],Z ab t] w (yw (.tuple #[.agg #[Z ab (Hq s v x t).f0.f0,Z ab (Hq s v x t).f0.f1,Z ab (Hq s v x t).f1.f0,Z ab (Hq s v x t).f1.f1],Z ab (pW s v x t)]) w):=by
 have qj:=Try.underlying31
 have oO:=Try.underlying27
 have hT0:=hT
 obtain ⟨A7,c7,A8,c8,mT,_⟩:=hT0
 have hm:=hS.most
 have hsp:=hV.speed
 have hdv:=hV.bq
 have p1:=je (show 0≤v.speed+s.most by omega) (show v.speed+s.most≤10000 by omega) (show 0≤v.bq by omega) hdv.2
 have kC:=fun W (h:lC W b s v)=>ZL b s v (fO s v x) W h hS
 have kN:=fun W (h:lC W b s v)=>amg b s v t (t+v.bq) W h hS
 have HE:Hid (pW s v x t = if (iX s (fO s v x) && uy s t (t+v.bq)) = true then 0 else 5):=Lib.hid rfl
 have HV:Hid (Hq s v x t = if pW s v x t = 0 then fO s v x else z31):=Lib.hid rfl
 have hG:fO s v x = ⟨⟨x.f0.f0 - ((v.speed+s.most)*v.bq+999) / 1000,x.f0.f1+((v.speed+s.most)*v.bq+999) / 1000⟩,⟨x.f1.f0 - ((v.speed+s.most)*v.bq+999) / 1000,x.f1.f1+((v.speed+s.most)*v.bq+999) / 1000⟩⟩:=rfl
 obtain ⟨x0,x1,x2,x3⟩:=hx
 clear hS hV
 go_enter Try.func99,Try.ntmps99
 go_wp2_with fail
 have yz:=bO mT
 have m4:dW ((w.alloc (.cells #[Z ab x.f0.f0,Z ab x.f0.f1,Z ab x.f1.f0,Z ab x.f1.f1] 31)).alloc (.cells #[Z ab 0,Z ab 0,Z ab 0,Z ab 0] 31)) (w.heap.size) #[Z ab x.f0.f0,Z ab x.f0.f1,Z ab x.f1.f0,Z ab x.f1.f1] 31:=(aa aoe _)
 have m6:dW ((w.alloc (.cells #[Z ab x.f0.f0,Z ab x.f0.f1,Z ab x.f1.f0,Z ab x.f1.f1] 31)).alloc (.cells #[Z ab 0,Z ab 0,Z ab 0,Z ab 0] 31)) (w.heap.size+1) #[Z ab 0,Z ab 0,Z ab 0,Z ab 0] 31:=(by have h_:=eB (w.alloc (.cells #[Z ab x.f0.f0,Z ab x.f0.f1,Z ab x.f1.f0,Z ab x.f1.f1] 31)) (.cells #[Z ab 0,Z ab 0,Z ab 0,Z ab 0] 31);first|exact h_|(simp only [World.size_alloc] at h_;exact h_))
 replace mT:dW ((w.alloc (.cells #[Z ab x.f0.f0,Z ab x.f0.f1,Z ab x.f1.f0,Z ab x.f1.f1] 31)).alloc (.cells #[Z ab 0,Z ab 0,Z ab 0,Z ab 0] 31)) b #[Z ab s.nx,Z ab s.ny,Z ab s.cell,Z ab s.slot,Z ab s.slots,Z ab s.layers,Z ab s.most,.slice A7 s.bf.length c7,.slice A8 s.aC.length c8,Z ab v.speed,Z ab v.bq,Z ab v.use.f0,Z ab v.use.f1,Z ab v.aV.f0,Z ab v.aV.f1,Z ab v.reserve] 110:=(aa (aa mT _) _)
 have mB:Below w.heap.size w ((w.alloc (.cells #[Z ab x.f0.f0,Z ab x.f0.f1,Z ab x.f1.f0,Z ab x.f1.f1] 31)).alloc (.cells #[Z ab 0,Z ab 0,Z ab 0,Z ab 0] 31)):=(aH (aH (Below.refl w.heap.size w) _) _)
 have kZ:w.heap.size≤w.heap.size:=Nat.le_refl _
 generalize qQ:((w.alloc (.cells #[Z ab x.f0.f0,Z ab x.f0.f1,Z ab x.f1.f0,Z ab x.f1.f1] 31)).alloc (.cells #[Z ab 0,Z ab 0,Z ab 0,Z ab 0] 31)) = W1 at mT m4 m6 mB ⊢
 clear qQ
 generalize hg4:w.heap.size = g4 at m4 m6 ⊢
 have aCG:b≠g4:=by omega
 have aWJ:g4≠b:=aCG.symm
 have hG4:w.heap.size≤g4:=by omega
 generalize hg6:g4+1 = g6 at m6 ⊢
 have Qn:b≠g6:=by omega
 have VP:g4≠g6:=by omega
 have agC:g6≠b:=Qn.symm
 have ao6:g6≠g4:=VP.symm
 have hG6:w.heap.size≤g6:=by omega
 clear kZ yz
 try clear hg6
 try clear hg4
 have sD:w.heap.size≤W1.heap.size:=mB.size
 have cT6:W1.cell? ⟨b,6,none⟩ = some (Z ab s.most):=(ae mT 6).trans rfl
 have cT9:W1.cell? ⟨b,9,none⟩ = some (Z ab v.speed):=(ae mT 9).trans rfl
 have aCH:W1.cell? ⟨b,10,none⟩ = some (Z ab v.bq):=(ae mT 10).trans rfl
 have q1:an (v.speed+s.most) = v.speed+s.most:=by unfold an;omega
 have q2:an ((v.speed+s.most)*v.bq) = (v.speed+s.most)*v.bq:=by unfold an;omega
 have q3:an ((v.speed+s.most)*v.bq+999) = (v.speed+s.most)*v.bq+999:=by unfold an;omega
 have q4:Int.tdiv ((v.speed+s.most)*v.bq+999) 1000 = ((v.speed+s.most)*v.bq+999) / 1000:=Int.tdiv_eq_ediv_of_nonneg (by omega)
 have hby:0≤((v.speed+s.most)*v.bq+999) / 1000∧((v.speed+s.most)*v.bq+999) / 1000≤2000000:=by omega
 go_quiet (fail)
 replace mT:=au mT nq
 replace m4:=au m4 nq
 replace m6:=au m6 nq
 replace mB:=ng mB nq
 generalize hWq:World.drewN _ nq = W2 at mT m4 m6 mB ⊢
 clear hWq
 have vI:w.heap.size≤W2.heap.size:=mB.size
 clear cT6 cT9 aCH q1 q2 q3 q4
 generalize ((v.speed+s.most)*v.bq+999) / 1000 = y at*
 clear p1
 generalize fO s v x = G at*
 subst hG
 dsimp only at kC
 obtain ⟨atQ,atS,aWK,aWL⟩:=rY m4
 go_wp2_with fail
 clear atQ atS aWK aWL
 have yz:=bO mT
 have ao7:=bO m4
 have ZW:=bO m6
 have m9:dW (W2.alloc (.cells #[Z ab (x.f0.f0 - y),Z ab (x.f0.f1+y),Z ab (x.f1.f0 - y),Z ab (x.f1.f1+y)] 31)) (W2.heap.size) #[Z ab (x.f0.f0 - y),Z ab (x.f0.f1+y),Z ab (x.f1.f0 - y),Z ab (x.f1.f1+y)] 31:=(by have h_:=eB W2 (.cells #[Z ab (x.f0.f0 - y),Z ab (x.f0.f1+y),Z ab (x.f1.f0 - y),Z ab (x.f1.f1+y)] 31);first|exact h_|(simp only [World.size_alloc] at h_;exact h_))
 replace mT:dW (W2.alloc (.cells #[Z ab (x.f0.f0 - y),Z ab (x.f0.f1+y),Z ab (x.f1.f0 - y),Z ab (x.f1.f1+y)] 31)) b #[Z ab s.nx,Z ab s.ny,Z ab s.cell,Z ab s.slot,Z ab s.slots,Z ab s.layers,Z ab s.most,.slice A7 s.bf.length c7,.slice A8 s.aC.length c8,Z ab v.speed,Z ab v.bq,Z ab v.use.f0,Z ab v.use.f1,Z ab v.aV.f0,Z ab v.aV.f1,Z ab v.reserve] 110:=(aa mT _)
 replace m4:dW (W2.alloc (.cells #[Z ab (x.f0.f0 - y),Z ab (x.f0.f1+y),Z ab (x.f1.f0 - y),Z ab (x.f1.f1+y)] 31)) g4 #[Z ab x.f0.f0,Z ab x.f0.f1,Z ab x.f1.f0,Z ab x.f1.f1] 31:=(aa m4 _)
 replace m6:dW (W2.alloc (.cells #[Z ab (x.f0.f0 - y),Z ab (x.f0.f1+y),Z ab (x.f1.f0 - y),Z ab (x.f1.f1+y)] 31)) g6 #[Z ab 0,Z ab 0,Z ab 0,Z ab 0] 31:=(aa m6 _)
 replace mB:Below w.heap.size w (W2.alloc (.cells #[Z ab (x.f0.f0 - y),Z ab (x.f0.f1+y),Z ab (x.f1.f0 - y),Z ab (x.f1.f1+y)] 31)):=(aH mB _)
 have kZ:w.heap.size≤W2.heap.size:=vI
 generalize qQ:(W2.alloc (.cells #[Z ab (x.f0.f0 - y),Z ab (x.f0.f1+y),Z ab (x.f1.f0 - y),Z ab (x.f1.f1+y)] 31)) = W3 at mT m4 m6 m9 mB ⊢
 clear qQ
 generalize hg9:W2.heap.size = g9 at m9 ⊢
 have Jw:b≠g9:=by omega
 have aCI:g4≠g9:=by omega
 have VQ:g6≠g9:=by omega
 have ZQ:g9≠b:=Jw.symm
 have aWM:g9≠g4:=aCI.symm
 have ao8:g9≠g6:=VQ.symm
 have hG9:w.heap.size≤g9:=by omega
 clear kZ yz ao7 ZW
 try clear hg9
 have FB:w.heap.size≤W3.heap.size:=mB.size
 have hcon:=kC W3 (hT.below mB)
 (with_reducible refine hcon.mono ?_)
 clear hcon
 rintro e W4 ⟨rfl,hb⟩
 replace mT:=ah mT hb
 replace m4:=ah m4 hb
 replace m6:=ah m6 hb
 replace m9:=ah m9 hb
 replace mB:=bI mB hb
 clear hb
 have Vz:w.heap.size≤W4.heap.size:=mB.size
 cases hc:iX s ⟨⟨x.f0.f0 - y,x.f0.f1+y⟩,⟨x.f1.f0 - y,x.f1.f1+y⟩⟩ with
 |false =>
  have HZ:Hid (pW s v x t = 5):=Lib.hid (by rw [HE.out,hc];rfl)
  clear HE
  have HV2:Hid (Hq s v x t = z31):=Lib.hid (HV.out.trans qi)
  clear HV
  obtain ⟨ZY,ZZ,Z0,Z4,aF4,aF5,aF6,aF7⟩:=jA m6
  go_wp2
  exact bodyPost_ret (nN rfl _ _ g6 31 #[Z ab 0,Z ab 0,Z ab 0,Z ab 0] (0,0) _ rfl (aK (aK (aK (aK m6 0 (Z ab 0) rfl) 1 (Z ab 0) rfl) 2 (Z ab 0) rfl) 3 (Z ab 0) rfl) Try.underlying31 rfl aT) rfl ⟨age,(Below.setCell (p:=⟨g6,3,none⟩) (Below.setCell (p:=⟨g6,2,none⟩) (Below.setCell (p:=⟨g6,1,none⟩) (Below.setCell (p:=⟨g6,0,none⟩) mB hG6 _) hG6 _) hG6 _) hG6 _)⟩
 |true =>
  have HC:=Lib.hid hc
  clear hc
  have aCH:W4.cell? ⟨b,10,none⟩ = some (Z ab v.bq):=(ae mT 10).trans rfl
  go_wp2_with fail
  clear aCH
  have hcon:=kN W4 (hT.below mB)
  (with_reducible refine hcon.mono ?_)
  clear hcon
  rintro e W5 ⟨rfl,hb⟩
  replace mT:=ah mT hb
  replace m4:=ah m4 hb
  replace m6:=ah m6 hb
  replace m9:=ah m9 hb
  replace mB:=bI mB hb
  clear hb
  have VA:w.heap.size≤W5.heap.size:=mB.size
  cases hk:uy s t (t+v.bq) with
  |false =>
   have HZ:Hid (pW s v x t = 5):=Lib.hid (by rw [HE.out,HC.out,hk];rfl)
   clear HE
   have HV2:Hid (Hq s v x t = z31):=Lib.hid (HV.out.trans qi)
   clear HV
   obtain ⟨ZY,ZZ,Z0,Z4,aF4,aF5,aF6,aF7⟩:=jA m6
   go_wp2
   exact bodyPost_ret (nN rfl _ _ g6 31 #[Z ab 0,Z ab 0,Z ab 0,Z ab 0] (0,0) _ rfl (aK (aK (aK (aK m6 0 (Z ab 0) rfl) 1 (Z ab 0) rfl) 2 (Z ab 0) rfl) 3 (Z ab 0) rfl) Try.underlying31 rfl aT) rfl ⟨age,(Below.setCell (p:=⟨g6,3,none⟩) (Below.setCell (p:=⟨g6,2,none⟩) (Below.setCell (p:=⟨g6,1,none⟩) (Below.setCell (p:=⟨g6,0,none⟩) mB hG6 _) hG6 _) hG6 _) hG6 _)⟩
  |true =>
   have HZ:Hid (pW s v x t = 0):=Lib.hid (by rw [HE.out,HC.out,hk];rfl)
   clear HE hk
   have HV2:=Lib.hid (HV.out.trans (if_pos HZ.out))
   clear HV
   obtain ⟨ZY,ZZ,Z0,Z4⟩:=rY m6
   obtain ⟨Jy,Jz,R5,R6⟩:=rY m9
   obtain ⟨aF4,aF5,aF6,aF7⟩:=asC m6
   go_wp2
   exact bodyPost_ret (nN rfl _ _ g6 31 #[Z ab (x.f0.f0 - y),Z ab (x.f0.f1+y),Z ab (x.f1.f0 - y),Z ab (x.f1.f1+y)] (0,0) _ rfl (aK (aK (aK (aK m6 0 (Z ab (x.f0.f0 - y)) rfl) 1 (Z ab (x.f0.f1+y)) rfl) 2 (Z ab (x.f1.f0 - y)) rfl) 3 (Z ab (x.f1.f1+y)) rfl) Try.underlying31 rfl aT) rfl ⟨age,(Below.setCell (p:=⟨g6,3,none⟩) (Below.setCell (p:=⟨g6,2,none⟩) (Below.setCell (p:=⟨g6,1,none⟩) (Below.setCell (p:=⟨g6,0,none⟩) mB hG6 _) hG6 _) hG6 _) hG6 _)⟩
end Go.Proofs.Ytmhaiihjfgfaoaa.Gl
end
