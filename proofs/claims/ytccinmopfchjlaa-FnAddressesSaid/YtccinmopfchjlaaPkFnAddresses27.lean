/- Joined texts: Qx53, SeqCore, SeqIsN, AngMath, AngCoreS, AngDoubleS, AngLetterS, AngOrbitS, AngOrbitSpecS, DrawBase, SeqRhoN, SeqAddrX, SeqOwn, SeqVals -/
import Derived.Test.YtccinmopfchjlaaPkFnAddresses22
import Derived.Test.YtccinmopfchjlaaPkFnAddresses24
import Derived.Test.YtccinmopfchjlaaPkFnAddresses25
import Derived.Test.YtccinmopfchjlaaPkFnAddresses26
import Derived.Test.YtccinmopfchjlaaPkFnAddresses23
import Derived.Laws.Bits64b
import Derived.Lib.IndexLaws
section
namespace Go.Proofs.Ytccinmopfchjlaa.Q
open Go.Proofs.YtccinmopfchjlaaW.Ext
open Go.RowKit Go.Proofs.YtccinmopfchjlaaW.PrintWords Go.Proofs.YtccinmopfchjlaaW.PrintLast Go.Proofs.YtccinmopfchjlaaW.PrintMore
attribute [local go_sem] max2_int min2_int max_two min_two max_three min_three max_four min_four   -- for this text's walks alone
set_option linter.unusedVariables false
set_option linter.unusedSimpArgs false
attribute [local go_sem high] eqA25
mutual
def laws_FnAddresses.j0:Nat → List Int → Int → Int → Int → Bool → Option (Bool)
 | 0,_,_,_,_,_=>none
 | k + 1,x0,x4,x5,x6,x52=>if x52 = true then (some false) else ((spec_DrawInternalAddress.f k x0).bind fun bt459=>((impl_InternalAddress.f k bt459.1 bt459.2).bind fun bt462=>((spec_InternalAddress.f k bt459.1 bt459.2).bind fun bt466=>(if bt462.2 = bt466.2 then ((laws_likeInts.f k bt462.1 bt466.1).bind fun t470=>(laws_FnAddresses.j1 k x0 x4 x5 x6 bt462.1 bt462.2 (!t470) bt459.1 bt459.2)) else (laws_FnAddresses.j1 k x0 x4 x5 x6 bt462.1 bt462.2 true bt459.1 bt459.2)))))
def laws_FnAddresses.j1:Nat → List Int → Int → Int → Int → List Int → Int → Bool → ByteArray → ByteArray → Option (Bool)
 | 0,_,_,_,_,_,_,_,_,_=>none
 | k + 1,x0,x4,x5,x6,x10,x11,x73,x462000,x462001=>if x73 = true then (some false) else ((spec_DrawSequenceOfAddress.f k x0).bind fun t471=>((impl_SequenceOfAddress.f k t471).bind fun bt474=>((spec_SequenceOfAddress.f k t471).bind fun bt478=>(if bt474.2.2 = bt478.2.2 then (laws_FnAddresses.j2 k x4 x5 x6 x10 x11 t471 bt474.2.2 (!(bt474.1.toList == bt478.1.toList) || (!(bt474.2.1.toList == bt478.2.1.toList))) x462000 x462001 bt474.1 bt474.2.1) else (laws_FnAddresses.j2 k x4 x5 x6 x10 x11 t471 bt474.2.2 true x462000 x462001 bt474.1 bt474.2.1)))))
def laws_FnAddresses.j2:Nat → Int → Int → Int → List Int → Int → List Int → Int → Bool → ByteArray → ByteArray → ByteArray → ByteArray → Option (Bool)
 | 0,_,_,_,_,_,_,_,_,_,_,_,_=>none
 | k + 1,x4,x5,x6,x10,x11,x14,x16,x93,x462000,x462001,x478000,x478001=>if x93 = true then (some false) else (if x11 = 0 then (laws_FnAddresses.l0 k x4 x5 x6 x10 x14 x16 0 x462000 x462001 x478000 x478001) else (laws_FnAddresses.j4 k x4 x5 x6 x14 x16 x478000 x478001))
def laws_FnAddresses.j4:Nat → Int → Int → Int → List Int → Int → ByteArray → ByteArray → Option (Bool)
 | 0,_,_,_,_,_,_,_=>none
 | k + 1,x4,x5,x6,x14,x16,x478000,x478001=>if x6 = 0 then (laws_FnAddresses.j5 k x14 x16 (decide (x5 ≤ x4)) x478000 x478001) else (laws_FnAddresses.j5 k x14 x16 false x478000 x478001)
def laws_FnAddresses.j5:Nat → List Int → Int → Bool → ByteArray → ByteArray → Option (Bool)
 | 0,_,_,_,_,_=>none
 | k + 1,x14,x16,x138,x478000,x478001=>if x138 = true then (some false) else (if x16 = 0 then ((impl_IsStarPeriodic.f k x478000 x478001).bind fun bt487=>((impl_InternalAddress.f k x478000 x478001).bind fun bt489=>(if bt487.2 = 0 then (if bt487.1 = true then (if bt489.2 = 0 then ((laws_likeInts.f k bt489.1 x14).bind fun t493=>(some t493)) else (some false)) else (some false)) else (some false)))) else (some (x478000.toList == ([]:List UInt8) && (x478001.toList == ([]:List UInt8)))))
def laws_FnAddresses.l0:Nat → Int → Int → Int → List Int → List Int → Int → Int → ByteArray → ByteArray → ByteArray → ByteArray → Option (Bool)
 | 0,_,_,_,_,_,_,_,_,_,_,_=>none
 | k + 1,x4,x5,x6,x10,x14,x16,x19,x462000,x462001,x478000,x478001=>if (wrap64 (x19 + 1)) < (x10.length:Int) then (if 0 ≤ x19 then (if x19 < (x10.length:Int) then ((impl_RhoOf.f k x462000 x462001 (rd x10 x19)).bind fun bt483=>(if bt483.2 = 0 then (if 0 ≤ (wrap64 (x19 + 1)) then (if bt483.1 = (rd x10 (wrap64 (x19 + 1))) then (laws_FnAddresses.l0 k x4 x5 x6 x10 x14 x16 (wrap64 (x19 + 1)) x462000 x462001 x478000 x478001) else (some false)) else (none)) else (some false))) else (none)) else (none)) else (if (x10.length:Int) = 0 then (some false) else (if 0 < (x10.length:Int) then (if (rd x10 0) = 1 then (laws_FnAddresses.j4 k x4 x5 x6 x14 x16 x478000 x478001) else (some false)) else (none)))
end
def laws_FnAddresses.f (k:Nat) (l0:List Int):Option (Bool):=(laws_big.f l0).bind fun t450=>(if t450 = true then (some true) else ((spec_DrawRhoOf.f k l0).bind fun bt451=>((impl_RhoOf.f k bt451.1 bt451.2.1 bt451.2.2).bind fun bt455=>((spec_RhoOf.f k bt451.1 bt451.2.1 bt451.2.2).bind fun bt457=>(if bt455.2 = bt457.2 then (laws_FnAddresses.j0 k l0 bt451.2.2 bt455.1 bt455.2 (bt455.1 != bt457.1)) else (laws_FnAddresses.j0 k l0 bt451.2.2 bt455.1 bt455.2 true))))))
theorem laws_FnAddresses.mono_l:∀ k,(∀ y0 y1 y2 y3 y4,LeO (laws_FnAddresses.j0 k y0 y1 y2 y3 y4) (laws_FnAddresses.j0 (k + 1) y0 y1 y2 y3 y4)) ∧ (∀ y0 y1 y2 y3 y4 y5 y6 y7 y8,LeO (laws_FnAddresses.j1 k y0 y1 y2 y3 y4 y5 y6 y7 y8) (laws_FnAddresses.j1 (k + 1) y0 y1 y2 y3 y4 y5 y6 y7 y8)) ∧ (∀ y0 y1 y2 y3 y4 y5 y6 y7 y8 y9 y10 y11,LeO (laws_FnAddresses.j2 k y0 y1 y2 y3 y4 y5 y6 y7 y8 y9 y10 y11) (laws_FnAddresses.j2 (k + 1) y0 y1 y2 y3 y4 y5 y6 y7 y8 y9 y10 y11)) ∧ (∀ y0 y1 y2 y3 y4 y5 y6,LeO (laws_FnAddresses.j4 k y0 y1 y2 y3 y4 y5 y6) (laws_FnAddresses.j4 (k + 1) y0 y1 y2 y3 y4 y5 y6)) ∧ (∀ y0 y1 y2 y3 y4,LeO (laws_FnAddresses.j5 k y0 y1 y2 y3 y4) (laws_FnAddresses.j5 (k + 1) y0 y1 y2 y3 y4)) ∧ (∀ y0 y1 y2 y3 y4 y5 y6 y7 y8 y9 y10,LeO (laws_FnAddresses.l0 k y0 y1 y2 y3 y4 y5 y6 y7 y8 y9 y10) (laws_FnAddresses.l0 (k + 1) y0 y1 y2 y3 y4 y5 y6 y7 y8 y9 y10))
 | 0=>⟨fun _ _ _ _ _ r h=>by simp [laws_FnAddresses.j0] at h,fun _ _ _ _ _ _ _ _ _ r h=>by simp [laws_FnAddresses.j1] at h,fun _ _ _ _ _ _ _ _ _ _ _ _ r h=>by simp [laws_FnAddresses.j2] at h,fun _ _ _ _ _ _ _ r h=>by simp [laws_FnAddresses.j4] at h,fun _ _ _ _ _ r h=>by simp [laws_FnAddresses.j5] at h,fun _ _ _ _ _ _ _ _ _ _ _ r h=>by simp [laws_FnAddresses.l0] at h⟩
 | k + 1=>by
  obtain ⟨ih0,ih1,ih2,ih3,ih4,ih5⟩:=laws_FnAddresses.mono_l k
  refine ⟨?_,?_,?_,?_,?_,?_⟩
  ·intro y0 y1 y2 y3 y4
   unfold laws_FnAddresses.j0
   repeat' first
   | (with_reducible exact ih0 _ _ _ _ _)
   | (with_reducible exact ih1 _ _ _ _ _ _ _ _ _)
   | (with_reducible exact ih2 _ _ _ _ _ _ _ _ _ _ _ _)
   | (with_reducible exact ih3 _ _ _ _ _ _ _)
   | (with_reducible exact ih4 _ _ _ _ _)
   | (with_reducible exact ih5 _ _ _ _ _ _ _ _ _ _ _)
   | (with_reducible exact impl_InternalAddress.mono _ _ _)
   | (with_reducible exact impl_IsStarPeriodic.mono _ _ _)
   | (with_reducible exact impl_RhoOf.mono _ _ _ _)
   | (with_reducible exact impl_SequenceOfAddress.mono _ _)
   | (with_reducible exact laws_likeInts.mono _ _ _)
   | (with_reducible exact spec_DrawInternalAddress.mono _ _)
   | (with_reducible exact spec_DrawRhoOf.mono _ _)
   | (with_reducible exact spec_DrawSequenceOfAddress.mono _ _)
   | (with_reducible exact spec_InternalAddress.mono _ _ _)
   | (with_reducible exact spec_RhoOf.mono _ _ _ _)
   | (with_reducible exact spec_SequenceOfAddress.mono _ _)
   | (with_reducible exact LeO.refl _)
   | (with_reducible exact LeO.none _)
   | (with_reducible refine LeO.ite ?_ ?_)
   | (with_reducible refine LeO.bind ?_ (fun _=>?_))
   | exact ih0 _ _ _ _ _
   | exact ih1 _ _ _ _ _ _ _ _ _
   | exact ih2 _ _ _ _ _ _ _ _ _ _ _ _
   | exact ih3 _ _ _ _ _ _ _
   | exact ih4 _ _ _ _ _
   | exact ih5 _ _ _ _ _ _ _ _ _ _ _
   | exact impl_InternalAddress.mono _ _ _
   | exact impl_IsStarPeriodic.mono _ _ _
   | exact impl_RhoOf.mono _ _ _ _
   | exact impl_SequenceOfAddress.mono _ _
   | exact laws_likeInts.mono _ _ _
   | exact spec_DrawInternalAddress.mono _ _
   | exact spec_DrawRhoOf.mono _ _
   | exact spec_DrawSequenceOfAddress.mono _ _
   | exact spec_InternalAddress.mono _ _ _
   | exact spec_RhoOf.mono _ _ _ _
   | exact spec_SequenceOfAddress.mono _ _
   | exact LeO.none _
   | refine LeO.ite ?_ ?_
   | refine LeO.bind ?_ (fun _=>?_)
  ·intro y0 y1 y2 y3 y4 y5 y6 y7 y8
   unfold laws_FnAddresses.j1
   repeat' first
   | (with_reducible exact ih0 _ _ _ _ _)
   | (with_reducible exact ih1 _ _ _ _ _ _ _ _ _)
   | (with_reducible exact ih2 _ _ _ _ _ _ _ _ _ _ _ _)
   | (with_reducible exact ih3 _ _ _ _ _ _ _)
   | (with_reducible exact ih4 _ _ _ _ _)
   | (with_reducible exact ih5 _ _ _ _ _ _ _ _ _ _ _)
   | (with_reducible exact impl_InternalAddress.mono _ _ _)
   | (with_reducible exact impl_IsStarPeriodic.mono _ _ _)
   | (with_reducible exact impl_RhoOf.mono _ _ _ _)
   | (with_reducible exact impl_SequenceOfAddress.mono _ _)
   | (with_reducible exact laws_likeInts.mono _ _ _)
   | (with_reducible exact spec_DrawInternalAddress.mono _ _)
   | (with_reducible exact spec_DrawRhoOf.mono _ _)
   | (with_reducible exact spec_DrawSequenceOfAddress.mono _ _)
   | (with_reducible exact spec_InternalAddress.mono _ _ _)
   | (with_reducible exact spec_RhoOf.mono _ _ _ _)
   | (with_reducible exact spec_SequenceOfAddress.mono _ _)
   | (with_reducible exact LeO.refl _)
   | (with_reducible exact LeO.none _)
   | (with_reducible refine LeO.ite ?_ ?_)
   | (with_reducible refine LeO.bind ?_ (fun _=>?_))
   | exact ih0 _ _ _ _ _
   | exact ih1 _ _ _ _ _ _ _ _ _
   | exact ih2 _ _ _ _ _ _ _ _ _ _ _ _
   | exact ih3 _ _ _ _ _ _ _
   | exact ih4 _ _ _ _ _
   | exact ih5 _ _ _ _ _ _ _ _ _ _ _
   | exact impl_InternalAddress.mono _ _ _
   | exact impl_IsStarPeriodic.mono _ _ _
   | exact impl_RhoOf.mono _ _ _ _
   | exact impl_SequenceOfAddress.mono _ _
   | exact laws_likeInts.mono _ _ _
   | exact spec_DrawInternalAddress.mono _ _
   | exact spec_DrawRhoOf.mono _ _
   | exact spec_DrawSequenceOfAddress.mono _ _
   | exact spec_InternalAddress.mono _ _ _
   | exact spec_RhoOf.mono _ _ _ _
   | exact spec_SequenceOfAddress.mono _ _
   | exact LeO.none _
   | refine LeO.ite ?_ ?_
   | refine LeO.bind ?_ (fun _=>?_)
  ·intro y0 y1 y2 y3 y4 y5 y6 y7 y8 y9 y10 y11
   unfold laws_FnAddresses.j2
   repeat' first
   | (with_reducible exact ih0 _ _ _ _ _)
   | (with_reducible exact ih1 _ _ _ _ _ _ _ _ _)
   | (with_reducible exact ih2 _ _ _ _ _ _ _ _ _ _ _ _)
   | (with_reducible exact ih3 _ _ _ _ _ _ _)
   | (with_reducible exact ih4 _ _ _ _ _)
   | (with_reducible exact ih5 _ _ _ _ _ _ _ _ _ _ _)
   | (with_reducible exact impl_InternalAddress.mono _ _ _)
   | (with_reducible exact impl_IsStarPeriodic.mono _ _ _)
   | (with_reducible exact impl_RhoOf.mono _ _ _ _)
   | (with_reducible exact impl_SequenceOfAddress.mono _ _)
   | (with_reducible exact laws_likeInts.mono _ _ _)
   | (with_reducible exact spec_DrawInternalAddress.mono _ _)
   | (with_reducible exact spec_DrawRhoOf.mono _ _)
   | (with_reducible exact spec_DrawSequenceOfAddress.mono _ _)
   | (with_reducible exact spec_InternalAddress.mono _ _ _)
   | (with_reducible exact spec_RhoOf.mono _ _ _ _)
   | (with_reducible exact spec_SequenceOfAddress.mono _ _)
   | (with_reducible exact LeO.refl _)
   | (with_reducible exact LeO.none _)
   | (with_reducible refine LeO.ite ?_ ?_)
   | (with_reducible refine LeO.bind ?_ (fun _=>?_))
   | exact ih0 _ _ _ _ _
   | exact ih1 _ _ _ _ _ _ _ _ _
   | exact ih2 _ _ _ _ _ _ _ _ _ _ _ _
   | exact ih3 _ _ _ _ _ _ _
   | exact ih4 _ _ _ _ _
   | exact ih5 _ _ _ _ _ _ _ _ _ _ _
   | exact impl_InternalAddress.mono _ _ _
   | exact impl_IsStarPeriodic.mono _ _ _
   | exact impl_RhoOf.mono _ _ _ _
   | exact impl_SequenceOfAddress.mono _ _
   | exact laws_likeInts.mono _ _ _
   | exact spec_DrawInternalAddress.mono _ _
   | exact spec_DrawRhoOf.mono _ _
   | exact spec_DrawSequenceOfAddress.mono _ _
   | exact spec_InternalAddress.mono _ _ _
   | exact spec_RhoOf.mono _ _ _ _
   | exact spec_SequenceOfAddress.mono _ _
   | exact LeO.none _
   | refine LeO.ite ?_ ?_
   | refine LeO.bind ?_ (fun _=>?_)
  ·intro y0 y1 y2 y3 y4 y5 y6
   unfold laws_FnAddresses.j4
   repeat' first
   | (with_reducible exact ih0 _ _ _ _ _)
   | (with_reducible exact ih1 _ _ _ _ _ _ _ _ _)
   | (with_reducible exact ih2 _ _ _ _ _ _ _ _ _ _ _ _)
   | (with_reducible exact ih3 _ _ _ _ _ _ _)
   | (with_reducible exact ih4 _ _ _ _ _)
   | (with_reducible exact ih5 _ _ _ _ _ _ _ _ _ _ _)
   | (with_reducible exact impl_InternalAddress.mono _ _ _)
   | (with_reducible exact impl_IsStarPeriodic.mono _ _ _)
   | (with_reducible exact impl_RhoOf.mono _ _ _ _)
   | (with_reducible exact impl_SequenceOfAddress.mono _ _)
   | (with_reducible exact laws_likeInts.mono _ _ _)
   | (with_reducible exact spec_DrawInternalAddress.mono _ _)
   | (with_reducible exact spec_DrawRhoOf.mono _ _)
   | (with_reducible exact spec_DrawSequenceOfAddress.mono _ _)
   | (with_reducible exact spec_InternalAddress.mono _ _ _)
   | (with_reducible exact spec_RhoOf.mono _ _ _ _)
   | (with_reducible exact spec_SequenceOfAddress.mono _ _)
   | (with_reducible exact LeO.refl _)
   | (with_reducible exact LeO.none _)
   | (with_reducible refine LeO.ite ?_ ?_)
   | (with_reducible refine LeO.bind ?_ (fun _=>?_))
   | exact ih0 _ _ _ _ _
   | exact ih1 _ _ _ _ _ _ _ _ _
   | exact ih2 _ _ _ _ _ _ _ _ _ _ _ _
   | exact ih3 _ _ _ _ _ _ _
   | exact ih4 _ _ _ _ _
   | exact ih5 _ _ _ _ _ _ _ _ _ _ _
   | exact impl_InternalAddress.mono _ _ _
   | exact impl_IsStarPeriodic.mono _ _ _
   | exact impl_RhoOf.mono _ _ _ _
   | exact impl_SequenceOfAddress.mono _ _
   | exact laws_likeInts.mono _ _ _
   | exact spec_DrawInternalAddress.mono _ _
   | exact spec_DrawRhoOf.mono _ _
   | exact spec_DrawSequenceOfAddress.mono _ _
   | exact spec_InternalAddress.mono _ _ _
   | exact spec_RhoOf.mono _ _ _ _
   | exact spec_SequenceOfAddress.mono _ _
   | exact LeO.none _
   | refine LeO.ite ?_ ?_
   | refine LeO.bind ?_ (fun _=>?_)
  ·intro y0 y1 y2 y3 y4
   unfold laws_FnAddresses.j5
   repeat' first
   | (with_reducible exact ih0 _ _ _ _ _)
   | (with_reducible exact ih1 _ _ _ _ _ _ _ _ _)
   | (with_reducible exact ih2 _ _ _ _ _ _ _ _ _ _ _ _)
   | (with_reducible exact ih3 _ _ _ _ _ _ _)
   | (with_reducible exact ih4 _ _ _ _ _)
   | (with_reducible exact ih5 _ _ _ _ _ _ _ _ _ _ _)
   | (with_reducible exact impl_InternalAddress.mono _ _ _)
   | (with_reducible exact impl_IsStarPeriodic.mono _ _ _)
   | (with_reducible exact impl_RhoOf.mono _ _ _ _)
   | (with_reducible exact impl_SequenceOfAddress.mono _ _)
   | (with_reducible exact laws_likeInts.mono _ _ _)
   | (with_reducible exact spec_DrawInternalAddress.mono _ _)
   | (with_reducible exact spec_DrawRhoOf.mono _ _)
   | (with_reducible exact spec_DrawSequenceOfAddress.mono _ _)
   | (with_reducible exact spec_InternalAddress.mono _ _ _)
   | (with_reducible exact spec_RhoOf.mono _ _ _ _)
   | (with_reducible exact spec_SequenceOfAddress.mono _ _)
   | (with_reducible exact LeO.refl _)
   | (with_reducible exact LeO.none _)
   | (with_reducible refine LeO.ite ?_ ?_)
   | (with_reducible refine LeO.bind ?_ (fun _=>?_))
   | exact ih0 _ _ _ _ _
   | exact ih1 _ _ _ _ _ _ _ _ _
   | exact ih2 _ _ _ _ _ _ _ _ _ _ _ _
   | exact ih3 _ _ _ _ _ _ _
   | exact ih4 _ _ _ _ _
   | exact ih5 _ _ _ _ _ _ _ _ _ _ _
   | exact impl_InternalAddress.mono _ _ _
   | exact impl_IsStarPeriodic.mono _ _ _
   | exact impl_RhoOf.mono _ _ _ _
   | exact impl_SequenceOfAddress.mono _ _
   | exact laws_likeInts.mono _ _ _
   | exact spec_DrawInternalAddress.mono _ _
   | exact spec_DrawRhoOf.mono _ _
   | exact spec_DrawSequenceOfAddress.mono _ _
   | exact spec_InternalAddress.mono _ _ _
   | exact spec_RhoOf.mono _ _ _ _
   | exact spec_SequenceOfAddress.mono _ _
   | exact LeO.none _
   | refine LeO.ite ?_ ?_
   | refine LeO.bind ?_ (fun _=>?_)
  ·intro y0 y1 y2 y3 y4 y5 y6 y7 y8 y9 y10
   unfold laws_FnAddresses.l0
   repeat' first
   | (with_reducible exact ih0 _ _ _ _ _)
   | (with_reducible exact ih1 _ _ _ _ _ _ _ _ _)
   | (with_reducible exact ih2 _ _ _ _ _ _ _ _ _ _ _ _)
   | (with_reducible exact ih3 _ _ _ _ _ _ _)
   | (with_reducible exact ih4 _ _ _ _ _)
   | (with_reducible exact ih5 _ _ _ _ _ _ _ _ _ _ _)
   | (with_reducible exact impl_InternalAddress.mono _ _ _)
   | (with_reducible exact impl_IsStarPeriodic.mono _ _ _)
   | (with_reducible exact impl_RhoOf.mono _ _ _ _)
   | (with_reducible exact impl_SequenceOfAddress.mono _ _)
   | (with_reducible exact laws_likeInts.mono _ _ _)
   | (with_reducible exact spec_DrawInternalAddress.mono _ _)
   | (with_reducible exact spec_DrawRhoOf.mono _ _)
   | (with_reducible exact spec_DrawSequenceOfAddress.mono _ _)
   | (with_reducible exact spec_InternalAddress.mono _ _ _)
   | (with_reducible exact spec_RhoOf.mono _ _ _ _)
   | (with_reducible exact spec_SequenceOfAddress.mono _ _)
   | (with_reducible exact LeO.refl _)
   | (with_reducible exact LeO.none _)
   | (with_reducible refine LeO.ite ?_ ?_)
   | (with_reducible refine LeO.bind ?_ (fun _=>?_))
   | exact ih0 _ _ _ _ _
   | exact ih1 _ _ _ _ _ _ _ _ _
   | exact ih2 _ _ _ _ _ _ _ _ _ _ _ _
   | exact ih3 _ _ _ _ _ _ _
   | exact ih4 _ _ _ _ _
   | exact ih5 _ _ _ _ _ _ _ _ _ _ _
   | exact impl_InternalAddress.mono _ _ _
   | exact impl_IsStarPeriodic.mono _ _ _
   | exact impl_RhoOf.mono _ _ _ _
   | exact impl_SequenceOfAddress.mono _ _
   | exact laws_likeInts.mono _ _ _
   | exact spec_DrawInternalAddress.mono _ _
   | exact spec_DrawRhoOf.mono _ _
   | exact spec_DrawSequenceOfAddress.mono _ _
   | exact spec_InternalAddress.mono _ _ _
   | exact spec_RhoOf.mono _ _ _ _
   | exact spec_SequenceOfAddress.mono _ _
   | exact LeO.none _
   | refine LeO.ite ?_ ?_
   | refine LeO.bind ?_ (fun _=>?_)
theorem laws_FnAddresses.mono:∀ a0 k,LeO (laws_FnAddresses.f k a0) (laws_FnAddresses.f (k + 1) a0):=by
 intro a0 k
 obtain ⟨ih0,ih1,ih2,ih3,ih4,ih5⟩:=laws_FnAddresses.mono_l k
 unfold laws_FnAddresses.f
 repeat' first
   | (with_reducible exact ih0 _ _ _ _ _)
   | (with_reducible exact ih1 _ _ _ _ _ _ _ _ _)
   | (with_reducible exact ih2 _ _ _ _ _ _ _ _ _ _ _ _)
   | (with_reducible exact ih3 _ _ _ _ _ _ _)
   | (with_reducible exact ih4 _ _ _ _ _)
   | (with_reducible exact ih5 _ _ _ _ _ _ _ _ _ _ _)
   | (with_reducible exact impl_InternalAddress.mono _ _ _)
   | (with_reducible exact impl_IsStarPeriodic.mono _ _ _)
   | (with_reducible exact impl_RhoOf.mono _ _ _ _)
   | (with_reducible exact impl_SequenceOfAddress.mono _ _)
   | (with_reducible exact laws_likeInts.mono _ _ _)
   | (with_reducible exact spec_DrawInternalAddress.mono _ _)
   | (with_reducible exact spec_DrawRhoOf.mono _ _)
   | (with_reducible exact spec_DrawSequenceOfAddress.mono _ _)
   | (with_reducible exact spec_InternalAddress.mono _ _ _)
   | (with_reducible exact spec_RhoOf.mono _ _ _ _)
   | (with_reducible exact spec_SequenceOfAddress.mono _ _)
   | (with_reducible exact LeO.refl _)
   | (with_reducible exact LeO.none _)
   | (with_reducible refine LeO.ite ?_ ?_)
   | (with_reducible refine LeO.bind ?_ (fun _=>?_))
   | exact ih0 _ _ _ _ _
   | exact ih1 _ _ _ _ _ _ _ _ _
   | exact ih2 _ _ _ _ _ _ _ _ _ _ _ _
   | exact ih3 _ _ _ _ _ _ _
   | exact ih4 _ _ _ _ _
   | exact ih5 _ _ _ _ _ _ _ _ _ _ _
   | exact impl_InternalAddress.mono _ _ _
   | exact impl_IsStarPeriodic.mono _ _ _
   | exact impl_RhoOf.mono _ _ _ _
   | exact impl_SequenceOfAddress.mono _ _
   | exact laws_likeInts.mono _ _ _
   | exact spec_DrawInternalAddress.mono _ _
   | exact spec_DrawRhoOf.mono _ _
   | exact spec_DrawSequenceOfAddress.mono _ _
   | exact spec_InternalAddress.mono _ _ _
   | exact spec_RhoOf.mono _ _ _ _
   | exact spec_SequenceOfAddress.mono _ _
   | exact LeO.none _
   | refine LeO.ite ?_ ?_
   | refine LeO.bind ?_ (fun _=>?_)
def laws_FnAddresses.T22:Bool × List (List Nat × List Nat):=(true,[([],[]),([],[]),([],[]),([1,2],[1,2]),([3],[3]),([0,4],[0,4]),([5],[5]),([6],[6]),([6],[6]),([7,5,0,1,2,3,4,5,6,7],[7]),([8,9,0,1,2,3,4,5,6,7,8,9],[8])])
def laws_FnAddresses.B22:List Nat:=[0,0,0,6,14,31,63,127,127,255,1023]
theorem laws_FnAddresses.tab22:rtab .any (opsOf Try.f3 22) = laws_FnAddresses.T22:=by kernel_rfl
theorem laws_FnAddresses.bits22:waitsOk laws_FnAddresses.T22.2 laws_FnAddresses.B22 = true:=by kernel_rfl
set_option maxHeartbeats 8000000 in
set_option maxRecDepth 100000 in
theorem laws_FnAddresses.calls (k:Nat) (A0:Option Addr) (c0:Nat) (l0:List Int) (r:Bool) (w:World) (hr0:Kd.C (Kd.int .u8) w A0 l0.length l0) (hc0:l0.length ≤ c0) (h:laws_FnAddresses.f k l0 = some r) :
  Calls Try.prog 3 #[.slice A0 l0.length c0] w fun e w'=>e = .returned (.bool r) ∧ Below w.heap.size w w':=by
 have hu25:=Try.underlying25
 have HR0:=aM hr0
 have HC0:=aM hc0
 clear hr0 hc0
 have HB:=aM (Below.refl w.heap.size w)
 have H:((laws_big.f l0).bind fun t450=>(if t450 = true then (some true) else ((spec_DrawRhoOf.f k l0).bind fun bt451=>((impl_RhoOf.f k bt451.1 bt451.2.1 bt451.2.2).bind fun bt455=>((spec_RhoOf.f k bt451.1 bt451.2.1 bt451.2.2).bind fun bt457=>(if bt455.2 = bt457.2 then (laws_FnAddresses.j0 k l0 bt451.2.2 bt455.1 bt455.2 (bt455.1 != bt457.1)) else (laws_FnAddresses.j0 k l0 bt451.2.2 bt455.1 bt455.2 true))))))) = some r:=h
 clear h
 replace H:=Option.bind_eq_some_iff.mp H
 obtain ⟨t450,A20,H⟩:=H
 replace H:(if t450 = true then (some true) else ((spec_DrawRhoOf.f k l0).bind fun bt451=>((impl_RhoOf.f k bt451.1 bt451.2.1 bt451.2.2).bind fun bt455=>((spec_RhoOf.f k bt451.1 bt451.2.1 bt451.2.2).bind fun bt457=>(if bt455.2 = bt457.2 then (laws_FnAddresses.j0 k l0 bt451.2.2 bt455.1 bt455.2 (bt455.1 != bt457.1)) else (laws_FnAddresses.j0 k l0 bt451.2.2 bt455.1 bt455.2 true)))))) = some r:=H
 have A2:=aM A20
 clear A20
 by_cases c3:t450 = true
 ·subst c3
  have H1:(some true) = some r:=by rw [if_pos rfl] at H;exact H
  clear H
  have H:=H1
  clear H1
  obtain rfl:=Option.some.inj H
  go_enter Try.func3,Try.ntmps3
  go_wp2_with (first|((with_reducible refine gate_callee (f:=4) rfl ?_);refine goesL_ (some 27) rfl rfl Try.func4 (by kernel_rfl) rfl #[.slice A0 l0.length c0] rfl (by (try simp only [sM,sC,sN]);first|done|rfl|(simp only [List.length_drop,List.length_take];rfl)) ?_;(with_reducible refine (laws_big.calls _ _ l0 true _ ?side1 ?side2 A2.out).mono ?_);(case side1=>repeat (first|exact HR0.out|(with_reducible refine cA ?_ _)|(with_reducible refine cN ?_ _)|(with_reducible refine cD ?_)));(case side2=>exact HC0.out);rintro e w' ⟨rfl,⟨nd,rfl⟩⟩;refine ⟨_,rfl,?_⟩))
  go_ret
  exact ⟨by first|rfl|(simp [errW_none,errW_some] <;> rfl)|(simp [*,errW_none,errW_some] <;> rfl),by repeat (first|(with_reducible first|exact HB.out|apply zA|apply zN|apply zD)|exact HB.out)⟩
 ·replace c3:=Bool.eq_false_iff.mpr c3
  subst c3
  have H1:((spec_DrawRhoOf.f k l0).bind fun bt451=>((impl_RhoOf.f k bt451.1 bt451.2.1 bt451.2.2).bind fun bt455=>((spec_RhoOf.f k bt451.1 bt451.2.1 bt451.2.2).bind fun bt457=>(if bt455.2 = bt457.2 then (laws_FnAddresses.j0 k l0 bt451.2.2 bt455.1 bt455.2 (bt455.1 != bt457.1)) else (laws_FnAddresses.j0 k l0 bt451.2.2 bt455.1 bt455.2 true))))) = some r:=by rw [if_neg (show ¬ (false = true) by decide)] at H;exact H
  clear H
  have H:=H1
  clear H1
  replace H:=Option.bind_eq_some_iff.mp H
  obtain ⟨⟨t451,t452,t453⟩,A40,H⟩:=H
  replace H:((impl_RhoOf.f k t451 t452 t453).bind fun bt455=>((spec_RhoOf.f k t451 t452 t453).bind fun bt457=>(if bt455.2 = bt457.2 then (laws_FnAddresses.j0 k l0 t453 bt455.1 bt455.2 (bt455.1 != bt457.1)) else (laws_FnAddresses.j0 k l0 t453 bt455.1 bt455.2 true)))) = some r:=H
  have A4:=aM A40
  clear A40
  replace H:=Option.bind_eq_some_iff.mp H
  obtain ⟨⟨t455,t456⟩,A50,H⟩:=H
  replace H:((spec_RhoOf.f k t451 t452 t453).bind fun bt457=>(if t456 = bt457.2 then (laws_FnAddresses.j0 k l0 t453 t455 t456 (t455 != bt457.1)) else (laws_FnAddresses.j0 k l0 t453 t455 t456 true))) = some r:=H
  have A5:=aM A50
  clear A50
  replace H:=Option.bind_eq_some_iff.mp H
  obtain ⟨⟨t457,t458⟩,A60,H⟩:=H
  replace H:(if t456 = t458 then (laws_FnAddresses.j0 k l0 t453 t455 t456 (t455 != t457)) else (laws_FnAddresses.j0 k l0 t453 t455 t456 true)) = some r:=H
  have A6:=aM A60
  clear A60
  have HC7:=aM H
  clear H
  go_enter Try.func3,Try.ntmps3
  go_upto_region 6 with (first|((with_reducible refine gate_callee (f:=4) rfl ?_);refine goesL_ (some 27) rfl rfl Try.func4 (by kernel_rfl) rfl #[.slice A0 l0.length c0] rfl (by (try simp only [sM,sC,sN]);first|done|rfl|(simp only [List.length_drop,List.length_take];rfl)) ?_;(with_reducible refine (laws_big.calls _ _ l0 false _ ?side1 ?side2 A2.out).mono ?_);(case side1=>repeat (first|exact HR0.out|(with_reducible refine cA ?_ _)|(with_reducible refine cN ?_ _)|(with_reducible refine cD ?_)));(case side2=>exact HC0.out);rintro e w' ⟨rfl,⟨nd,rfl⟩⟩;refine ⟨_,rfl,?_⟩)|((with_reducible refine gate_callee (f:=5) rfl ?_);refine goesL_ (some 30) rfl rfl Try.func5 (by kernel_rfl) rfl #[.slice A0 l0.length c0] rfl (by (try simp only [sM,sC,sN]);first|done|rfl|(simp only [List.length_drop,List.length_take];rfl)) ?_;(with_reducible refine (spec_DrawRhoOf.calls k _ _ l0 t451 t452 t453 _ ?side1 ?side2 A4.out).mono ?_);(case side1=>repeat (first|exact HR0.out|(with_reducible refine cA ?_ _)|(with_reducible refine cN ?_ _)|(with_reducible refine cD ?_)));(case side2=>exact HC0.out);rintro e w8 ⟨rfl,hb⟩;refine ⟨_,rfl,?_⟩;replace HB:=aM (below_step (by repeat (first|(with_reducible first|exact HB.out|apply zA|apply zN|apply zD)|exact HB.out)) hb);(try clear hb);(try clear hb2);(try clear hk);(try clear hi))|((with_reducible refine gate_dst (N:=3) rfl ?_);refine box_event ?hg (N:=3) ?hd (cs:=#[.string ⟨#[]⟩,.string ⟨#[]⟩]) (t:=25) ?hr ?_;(case hd=>rfl);(case hg=>rfl);(case hr=>first|(go_simp;done)|(go_simp;rfl));intro gb454 hg w9 hbox hb;have n0_:=aM (below_step (by repeat (first|(with_reducible first|exact HB.out|apply zA|apply zN|apply zD)|exact HB.out)) hb);have n1_:=aM (hbox);have n2_:=aM ((by rw [hg];exact (below_size (by repeat (first|(with_reducible first|exact HB.out|apply zA|apply zN|apply zD)|exact HB.out))):w.heap.size ≤ gb454));have n3_:=aM ((by rw [hg];exact (below_size (by repeat (first|(with_reducible first|exact HB.out|apply zA|apply zN|apply zD)|exact HB.out))):w.heap.size ≤ gb454));clear HB;have HB:=n0_;have BK454:=n1_;have GW454:=n2_;have GE454:=n3_;clear n0_ n1_ n2_ n3_;clear hb hbox hg;have hcz10_0:w9.cell? ⟨gb454,0,none⟩ = some (.string ⟨#[]⟩):=(blk_cell BK454.out 0).trans rfl;have hcz10_1:w9.cell? ⟨gb454,1,none⟩ = some (.string ⟨#[]⟩):=(blk_cell BK454.out 1).trans rfl;have hfz10_0:=blk_frozen BK454.out 0;have hfz10_1:=blk_frozen BK454.out 1)|((with_reducible refine gate_callee (f:=6) rfl ?_);refine goesL_ (some 36) rfl rfl Try.func6 (by kernel_rfl) rfl #[.agg #[.string t451,.string t452],.int .i64 t453] rfl (by (try simp only [sM,sC,sN]);first|done|rfl|(simp only [List.length_drop,List.length_take];rfl)) ?_;(with_reducible refine (impl_RhoOf.calls k t451 t452 t453 t455 t456 _ A5.out).mono ?_);rintro e w11 ⟨rfl,hb⟩;refine ⟨_,rfl,?_⟩;replace BK454:=aM (blk_below (g:=gb454) (o:=.cells #[.string t451,.string t452] 25 (0,0)) (by (with_reducible repeat (first|apply yN|apply yD|apply yA));refine blk_put (cs:=#[.string t451,.string ⟨#[]⟩]) ?_ 1 _ rfl;(with_reducible repeat (first|apply yN|apply yD|apply yA));refine blk_put (cs:=#[.string ⟨#[]⟩,.string ⟨#[]⟩]) ?_ 0 _ rfl;(with_reducible repeat (first|apply yN|apply yD|apply yA));exact BK454.out) hb);replace HB:=aM (below_step (by repeat (first|(with_reducible first|exact HB.out|apply zA|apply zN|apply zD|refine zS ?_ GE454.out)|exact HB.out)) hb);(try clear hb);(try clear hb2);(try clear hk);(try clear hi);have hcz12_0:w11.cell? ⟨gb454,0,none⟩ = some (.string t451):=(blk_cell BK454.out 0).trans rfl;have hcz12_1:w11.cell? ⟨gb454,1,none⟩ = some (.string t452):=(blk_cell BK454.out 1).trans rfl;have hfz12_0:=blk_frozen BK454.out 0;have hfz12_1:=blk_frozen BK454.out 1)|((with_reducible refine gate_callee (f:=7) rfl ?_);refine goesL_ (some 42) rfl rfl Try.func7 (by kernel_rfl) rfl #[.agg #[.string t451,.string t452],.int .i64 t453] rfl (by (try simp only [sM,sC,sN]);first|done|rfl|(simp only [List.length_drop,List.length_take];rfl)) ?_;(with_reducible refine (spec_RhoOf.calls k t451 t452 t453 t457 t458 _ A6.out).mono ?_);rintro e w13 ⟨rfl,hb⟩;refine ⟨_,rfl,?_⟩;replace BK454:=aM (blk_below (g:=gb454) (o:=.cells #[.string t451,.string t452] 25 (0,0)) (by (with_reducible repeat (first|apply yN|apply yD|apply yA));exact BK454.out) hb);replace HB:=aM (below_step (by repeat (first|(with_reducible first|exact HB.out|apply zA|apply zN|apply zD|refine zS ?_ GE454.out)|exact HB.out)) hb);(try clear hb);(try clear hb2);(try clear hk);(try clear hi)))
  (try simp only [Act.put,sI,sZ,sS])
  go_cut [52] (fun v52 wc=>∃ (kq:Nat) (x52_6:Bool),v52 = .bool x52_6 ∧ Aside0 (laws_FnAddresses.j0 kq l0 t453 t455 t456 x52_6 = some r) ∧ Aside0 (kq ≤ k) ∧ Aside0 (wc.heap[gb454]? = some (.cells #[.string t451,.string t452] 25 (0,0))) ∧ Aside0 (Below w.heap.size w wc))
  case first =>
   have H:=HC7.out
   clear HC7
   by_cases c14:t456 = t458
   ·rw [if_pos c14] at H
    have c14b0:(t456 == t458) = true:=beq_iff_eq.mpr c14
    have c14b1:(t456 != t458) = false:=bne_eq_false_iff_eq.mpr c14
    clear c14
    (first|rw [c14b0]|(simp only [i64_w,i32_w];rw [c14b0])|skip)
    have H':=aM H
    clear H
    go_wp2
    go_meet
    case rel=>exact ⟨_,((t455 != t457)),(by first|rfl|(simp;done)|(simp [*];done)),H',⟨by first|omega|exact Nat.le_refl _⟩,⟨BK454.out⟩,⟨HB.out⟩⟩
   ·rw [if_neg c14] at H
    have c14b0:(t456 == t458) = false:=beq_eq_false_iff_ne.mpr c14
    have c14b1:(t456 != t458) = true:=bne_iff_ne.mpr c14
    (first|rw [c14b0]|(simp only [i64_w,i32_w];rw [c14b0])|skip)
    have H':=aM H
    clear H
    go_wp2
    go_meet
    case rel=>exact ⟨_,(true),(by first|rfl|(simp;done)|(simp [*];done)),H',⟨by first|omega|exact Nat.le_refl _⟩,⟨BK454.out⟩,⟨HB.out⟩⟩
  case rest =>
   clear HC7
   try clear c1
   try clear p2
   try clear c3
   try clear c4
   try clear c5
   try clear c6
   try clear c7
   try clear c14
   try clear c14b0
   try clear c14b1
   try clear hcz10_0
   try clear hcz10_1
   try clear hcz12_0
   try clear hcz12_1
   try clear hfz10_0
   try clear hfz10_1
   try clear hfz12_0
   try clear hfz12_1
   obtain ⟨kq,x52_6,rfl,HA,HJ6,BK454,HB⟩:=hcut
   cases kq with
   | zero=>exact absurd HA.out (by simp [laws_FnAddresses.j0])
   | succ kj6 =>
    have H:=HA.out
    clear HA
    simp only [laws_FnAddresses.j0] at H
    by_cases c15:x52_6 = true
    ·subst c15
     have H1:(some false) = some r:=by rw [if_pos rfl] at H;exact H
     clear H
     have H:=H1
     clear H1
     obtain rfl:=Option.some.inj H
     go_wp2
     go_ret
     exact ⟨by first|rfl|(simp [errW_none,errW_some] <;> rfl)|(simp [*,errW_none,errW_some] <;> rfl),HB.out⟩
    ·replace c15:=Bool.eq_false_iff.mpr c15
     subst c15
     have H1:((spec_DrawInternalAddress.f kj6 l0).bind fun bt459=>((impl_InternalAddress.f kj6 bt459.1 bt459.2).bind fun bt462=>((spec_InternalAddress.f kj6 bt459.1 bt459.2).bind fun bt466=>(if bt462.2 = bt466.2 then ((laws_likeInts.f kj6 bt462.1 bt466.1).bind fun t470=>(laws_FnAddresses.j1 kj6 l0 t453 t455 t456 bt462.1 bt462.2 (!t470) bt459.1 bt459.2)) else (laws_FnAddresses.j1 kj6 l0 t453 t455 t456 bt462.1 bt462.2 true bt459.1 bt459.2))))) = some r:=by rw [if_neg (show ¬ (false = true) by decide)] at H;exact H
     clear H
     have H:=H1
     clear H1
     replace H:=Option.bind_eq_some_iff.mp H
     obtain ⟨⟨t459,t460⟩,A160,H⟩:=H
     replace H:((impl_InternalAddress.f kj6 t459 t460).bind fun bt462=>((spec_InternalAddress.f kj6 t459 t460).bind fun bt466=>(if bt462.2 = bt466.2 then ((laws_likeInts.f kj6 bt462.1 bt466.1).bind fun t470=>(laws_FnAddresses.j1 kj6 l0 t453 t455 t456 bt462.1 bt462.2 (!t470) t459 t460)) else (laws_FnAddresses.j1 kj6 l0 t453 t455 t456 bt462.1 bt462.2 true t459 t460)))) = some r:=H
     have A16:=aM A160
     clear A160
     replace H:=Option.bind_eq_some_iff.mp H
     obtain ⟨⟨t462,t465⟩,A170,H⟩:=H
     replace H:((spec_InternalAddress.f kj6 t459 t460).bind fun bt466=>(if t465 = bt466.2 then ((laws_likeInts.f kj6 t462 bt466.1).bind fun t470=>(laws_FnAddresses.j1 kj6 l0 t453 t455 t456 t462 t465 (!t470) t459 t460)) else (laws_FnAddresses.j1 kj6 l0 t453 t455 t456 t462 t465 true t459 t460))) = some r:=H
     have A17:=aM A170
     clear A170
     replace H:=Option.bind_eq_some_iff.mp H
     obtain ⟨⟨t466,t469⟩,A180,H⟩:=H
     replace H:(if t465 = t469 then ((laws_likeInts.f kj6 t462 t466).bind fun t470=>(laws_FnAddresses.j1 kj6 l0 t453 t455 t456 t462 t465 (!t470) t459 t460)) else (laws_FnAddresses.j1 kj6 l0 t453 t455 t456 t462 t465 true t459 t460)) = some r:=H
     have A18:=aM A180
     clear A180
     have HC19:=aM H
     clear H
     go_upto_region 11 with (first|((with_reducible refine gate_callee (f:=8) rfl ?_);refine goesL_ (some 54) rfl rfl Try.func8 (by kernel_rfl) rfl #[.slice A0 l0.length c0] rfl (by (try simp only [sM,sC,sN]);first|done|rfl|(simp only [List.length_drop,List.length_take];rfl)) ?_;(with_reducible refine (spec_DrawInternalAddress.calls kj6 _ _ l0 t459 t460 _ ?side1 ?side2 A16.out).mono ?_);(case side1=>repeat (first|exact (Kd.C_below HR0.out HB.out)|(with_reducible refine cA ?_ _)|(with_reducible refine cN ?_ _)|(with_reducible refine cD ?_)));(case side2=>exact HC0.out);rintro e w20 ⟨rfl,hb⟩;refine ⟨_,rfl,?_⟩;replace BK454:=aM (blk_below (g:=gb454) (o:=.cells #[.string t451,.string t452] 25 (0,0)) (by (with_reducible repeat (first|apply yN|apply yD|apply yA));exact BK454.out) hb);replace HB:=aM (below_step (by repeat (first|(with_reducible first|exact HB.out|apply zA|apply zN|apply zD|refine zS ?_ GE454.out)|exact HB.out)) hb);(try clear hb);(try clear hb2);(try clear hk);(try clear hi))|((with_reducible refine gate_dst (N:=9) rfl ?_);refine box_event ?hg (N:=9) ?hd (cs:=#[.string ⟨#[]⟩,.string ⟨#[]⟩]) (t:=25) ?hr ?_;(case hd=>rfl);(case hg=>rfl);(case hr=>first|(go_simp;done)|(go_simp;rfl));intro gb461 hg w21 hbox hb;have n0_:=aM (blk_below (g:=gb454) (o:=.cells #[.string t451,.string t452] 25 (0,0)) (by (with_reducible repeat (first|apply yN|apply yD|apply yA));exact BK454.out) hb);have n1_:=aM (below_step (by repeat (first|(with_reducible first|exact HB.out|apply zA|apply zN|apply zD|refine zS ?_ GE454.out)|exact HB.out)) hb);have n2_:=aM (hbox);have n3_:=aM ((by rw [hg];exact (below_size (by repeat (first|(with_reducible first|exact HB.out|apply zA|apply zN|apply zD|refine zS ?_ GE454.out)|exact HB.out))):w.heap.size ≤ gb461));have n4_:=aM ((by rw [hg];exact (below_size (by repeat (first|(with_reducible first|exact HB.out|apply zA|apply zN|apply zD|refine zS ?_ GE454.out)|exact HB.out))):w.heap.size ≤ gb461));have n5_:=aM ((by rw [hg];exact Nat.ne_of_lt (blk_lt (g:=gb454) (o:=.cells #[.string t451,.string t452] 25 (0,0)) (by (with_reducible repeat (first|apply yN|apply yD|apply yA));exact BK454.out)):gb454 ≠ gb461));have n6_:=aM ((by rw [hg];exact Nat.ne_of_gt (blk_lt (g:=gb454) (o:=.cells #[.string t451,.string t452] 25 (0,0)) (by (with_reducible repeat (first|apply yN|apply yD|apply yA));exact BK454.out)):gb461 ≠ gb454));clear BK454;clear HB;have BK454:=n0_;have HB:=n1_;have BK461:=n2_;have GW461:=n3_;have GE461:=n4_;have NB454_461:=n5_;have NB461_454:=n6_;clear n0_ n1_ n2_ n3_ n4_ n5_ n6_;clear hb hbox hg;have hnb22:=NB461_454.out;have hnc22:=NB454_461.out;have hcz23_0:w21.cell? ⟨gb461,0,none⟩ = some (.string ⟨#[]⟩):=(blk_cell BK461.out 0).trans rfl;have hcz23_1:w21.cell? ⟨gb461,1,none⟩ = some (.string ⟨#[]⟩):=(blk_cell BK461.out 1).trans rfl;have hfz23_0:=blk_frozen BK461.out 0;have hfz23_1:=blk_frozen BK461.out 1)|((with_reducible refine gate_callee (f:=9) rfl ?_);refine goesL_ (some 57) rfl rfl Try.func9 (by kernel_rfl) rfl #[.agg #[.string t459,.string t460]] rfl (by (try simp only [sM,sC,sN]);first|done|rfl|(simp only [List.length_drop,List.length_take];rfl)) ?_;(with_reducible refine (impl_InternalAddress.calls kj6 t459 t460 t462 t465 _ A17.out).mono ?_);rintro e w24 ⟨v463,rfl,ho0,hb⟩;refine ⟨_,rfl,?_⟩;have HO464:=aM (Kd.R_lower ho0 (below_size (by repeat (first|(with_reducible first|exact HB.out|apply zA|apply zN|apply zD|refine zS ?_ GE454.out|refine zS ?_ GE461.out)|exact HB.out))));replace BK454:=aM (blk_below (g:=gb454) (o:=.cells #[.string t451,.string t452] 25 (0,0)) (by (with_reducible repeat (first|apply yN|apply yD|apply yA));refine blk_far ?_ NB454_461.out _;(with_reducible repeat (first|apply yN|apply yD|apply yA));refine blk_far ?_ NB454_461.out _;(with_reducible repeat (first|apply yN|apply yD|apply yA));exact BK454.out) hb);replace BK461:=aM (blk_below (g:=gb461) (o:=.cells #[.string t459,.string t460] 25 (0,0)) (by (with_reducible repeat (first|apply yN|apply yD|apply yA));refine blk_put (cs:=#[.string t459,.string ⟨#[]⟩]) ?_ 1 _ rfl;(with_reducible repeat (first|apply yN|apply yD|apply yA));refine blk_put (cs:=#[.string ⟨#[]⟩,.string ⟨#[]⟩]) ?_ 0 _ rfl;(with_reducible repeat (first|apply yN|apply yD|apply yA));exact BK461.out) hb);replace HB:=aM (below_step (by repeat (first|(with_reducible first|exact HB.out|apply zA|apply zN|apply zD|refine zS ?_ GE454.out|refine zS ?_ GE461.out)|exact HB.out)) hb);(try clear hb);(try clear hb2);(try clear hk);(try clear hi);(try clear ho0);have hcz25_0:w24.cell? ⟨gb461,0,none⟩ = some (.string t459):=(blk_cell BK461.out 0).trans rfl;have hcz25_1:w24.cell? ⟨gb461,1,none⟩ = some (.string t460):=(blk_cell BK461.out 1).trans rfl;have hfz25_0:=blk_frozen BK461.out 0;have hfz25_1:=blk_frozen BK461.out 1)|((with_reducible refine gate_callee (f:=10) rfl ?_);refine goesL_ (some 62) rfl rfl Try.func10 (by kernel_rfl) rfl #[.agg #[.string t459,.string t460]] rfl (by (try simp only [sM,sC,sN]);first|done|rfl|(simp only [List.length_drop,List.length_take];rfl)) ?_;(with_reducible refine (spec_InternalAddress.calls kj6 t459 t460 t466 t469 _ A18.out).mono ?_);rintro e w26 ⟨v467,rfl,ho0,hb⟩;refine ⟨_,rfl,?_⟩;have n0_:=aM (Kd.R_elder' (by (with_reducible repeat (first|apply rA|apply rN|apply rD));exact HO464.out) (Kd.R_base ho0) hb);have n1_:=aM (Kd.R_lower (Kd.R_new' ho0 (Kd.R_lt (by (with_reducible repeat (first|apply rA|apply rN|apply rD));exact HO464.out))) (below_size (by repeat (first|(with_reducible first|exact HB.out|apply zA|apply zN|apply zD|refine zS ?_ GE454.out|refine zS ?_ GE461.out)|exact HB.out))));have n2_:=aM (blk_below (g:=gb454) (o:=.cells #[.string t451,.string t452] 25 (0,0)) (by (with_reducible repeat (first|apply yN|apply yD|apply yA));exact BK454.out) hb);have n3_:=aM (blk_below (g:=gb461) (o:=.cells #[.string t459,.string t460] 25 (0,0)) (by (with_reducible repeat (first|apply yN|apply yD|apply yA));exact BK461.out) hb);have n4_:=aM (below_step (by repeat (first|(with_reducible first|exact HB.out|apply zA|apply zN|apply zD|refine zS ?_ GE454.out|refine zS ?_ GE461.out)|exact HB.out)) hb);clear HO464;clear BK454;clear BK461;clear HB;have HO464:=n0_;have HO468:=n1_;have BK454:=n2_;have BK461:=n3_;have HB:=n4_;clear n0_ n1_ n2_ n3_ n4_;(try clear hb);(try clear hb2);(try clear hk);(try clear hi);(try clear ho0)))
     (try simp only [Act.put,sI,sZ,sS])
     go_cut [73] (fun v73 wc=>∃ (kq:Nat) (x73_18:Bool),v73 = .bool x73_18 ∧ Aside0 (laws_FnAddresses.j1 kq l0 t453 t455 t456 t462 t465 x73_18 t459 t460 = some r) ∧ Aside0 (kq ≤ kj6) ∧ Aside0 (Kd.R (Kd.int .i64) 2 wc w.heap.size (fun _=>True) v463 t462) ∧ Aside0 (wc.heap[gb454]? = some (.cells #[.string t451,.string t452] 25 (0,0))) ∧ Aside0 (wc.heap[gb461]? = some (.cells #[.string t459,.string t460] 25 (0,0))) ∧ Aside0 (Below w.heap.size w wc))
     case first =>
      have H:=HC19.out
      clear HC19
      by_cases c27:t465 = t469
      ·rw [if_pos c27] at H
       have c27b0:(t465 == t469) = true:=beq_iff_eq.mpr c27
       have c27b1:(t465 != t469) = false:=bne_eq_false_iff_eq.mpr c27
       clear c27
       (first|rw [c27b0]|(simp only [i64_w,i32_w];rw [c27b0])|skip)
       replace H:=Option.bind_eq_some_iff.mp H
       obtain ⟨t470,A280,H⟩:=H
       replace H:(laws_FnAddresses.j1 kj6 l0 t453 t455 t456 t462 t465 (!t470) t459 t460) = some r:=H
       have A28:=aM A280
       clear A280
       have H':=aM H
       clear H
       obtain ⟨Ao29,co29,eo29⟩:=Kd.R_slice HO464.out
       subst eo29
       obtain ⟨Ao30,co30,eo30⟩:=Kd.R_slice HO468.out
       subst eo30
       go_wp2_with (first|(go_at_call 11;(with_reducible refine (laws_likeInts.calls kj6 _ _ t462 _ _ t466 t470 _ ?side1 ?side2 ?side3 ?side4 A28.out).mono ?_);(case side1=>repeat (first|exact (Kd.R_reads' HO464.out).2.2|(with_reducible refine cA ?_ _)|(with_reducible refine cN ?_ _)|(with_reducible refine cD ?_)));(case side2=>exact (Kd.R_reads' HO464.out).2.1);(case side3=>repeat (first|exact (Kd.R_reads' HO468.out).2.2|(with_reducible refine cA ?_ _)|(with_reducible refine cN ?_ _)|(with_reducible refine cD ?_)));(case side4=>exact (Kd.R_reads' HO468.out).2.1);rintro e w' ⟨rfl,⟨nd,rfl⟩⟩))
       go_meet
       case rel=>exact ⟨_,(!t470),(by first|rfl|(simp;done)|(simp [*];done)),H',⟨by have:=HJ6.out;first|omega|exact Nat.le_refl _⟩,⟨by (with_reducible repeat (first|apply rA|apply rN|apply rD));exact Kd.R_mono HO464.out (fun _ hk=>trivial)⟩,⟨by (with_reducible repeat (first|apply yN|apply yD|apply yA));exact BK454.out⟩,⟨by (with_reducible repeat (first|apply yN|apply yD|apply yA));exact BK461.out⟩,⟨by repeat (first|(with_reducible first|exact HB.out|apply zA|apply zN|apply zD|refine zS ?_ GE454.out|refine zS ?_ GE461.out)|exact HB.out)⟩⟩
      ·rw [if_neg c27] at H
       have c27b0:(t465 == t469) = false:=beq_eq_false_iff_ne.mpr c27
       have c27b1:(t465 != t469) = true:=bne_iff_ne.mpr c27
       (first|rw [c27b0]|(simp only [i64_w,i32_w];rw [c27b0])|skip)
       have H':=aM H
       clear H
       go_wp2
       go_meet
       case rel=>exact ⟨_,(true),(by first|rfl|(simp;done)|(simp [*];done)),H',⟨by have:=HJ6.out;first|omega|exact Nat.le_refl _⟩,⟨by (with_reducible repeat (first|apply rA|apply rN|apply rD));exact Kd.R_mono HO464.out (fun _ hk=>trivial)⟩,⟨BK454.out⟩,⟨BK461.out⟩,⟨HB.out⟩⟩
     case rest =>
      clear HC19
      try clear c1
      try clear c2
      try clear p2
      try clear c3
      try clear c4
      try clear c5
      try clear c6
      try clear c7
      try clear c8
      try clear c9
      try clear c10
      try clear c14
      try clear c14b0
      try clear c14b1
      try clear c15
      try clear c22
      try clear c27
      try clear c27b0
      try clear c27b1
      try clear hcz10_0
      try clear hcz10_1
      try clear hcz12_0
      try clear hcz12_1
      try clear hcz23_0
      try clear hcz23_1
      try clear hcz25_0
      try clear hcz25_1
      try clear hfz10_0
      try clear hfz10_1
      try clear hfz12_0
      try clear hfz12_1
      try clear hfz23_0
      try clear hfz23_1
      try clear hfz25_0
      try clear hfz25_1
      try clear p2
      obtain ⟨kq,x73_18,rfl,HA,HJ18,HO_10,BK454,BK461,HB⟩:=hcut
      cases kq with
      | zero=>exact absurd HA.out (by simp [laws_FnAddresses.j1])
      | succ kj18 =>
       have H:=HA.out
       clear HA
       simp only [laws_FnAddresses.j1] at H
       by_cases c31:x73_18 = true
       ·subst c31
        have H1:(some false) = some r:=by rw [if_pos rfl] at H;exact H
        clear H
        have H:=H1
        clear H1
        obtain rfl:=Option.some.inj H
        go_wp2
        go_ret
        exact ⟨by first|rfl|(simp [errW_none,errW_some] <;> rfl)|(simp [*,errW_none,errW_some] <;> rfl),HB.out⟩
       ·replace c31:=Bool.eq_false_iff.mpr c31
        subst c31
        have H1:((spec_DrawSequenceOfAddress.f kj18 l0).bind fun t471=>((impl_SequenceOfAddress.f kj18 t471).bind fun bt474=>((spec_SequenceOfAddress.f kj18 t471).bind fun bt478=>(if bt474.2.2 = bt478.2.2 then (laws_FnAddresses.j2 kj18 t453 t455 t456 t462 t465 t471 bt474.2.2 (!(bt474.1.toList == bt478.1.toList) || (!(bt474.2.1.toList == bt478.2.1.toList))) t459 t460 bt474.1 bt474.2.1) else (laws_FnAddresses.j2 kj18 t453 t455 t456 t462 t465 t471 bt474.2.2 true t459 t460 bt474.1 bt474.2.1))))) = some r:=by rw [if_neg (show ¬ (false = true) by decide)] at H;exact H
        clear H
        have H:=H1
        clear H1
        replace H:=Option.bind_eq_some_iff.mp H
        obtain ⟨t471,A320,H⟩:=H
        replace H:((impl_SequenceOfAddress.f kj18 t471).bind fun bt474=>((spec_SequenceOfAddress.f kj18 t471).bind fun bt478=>(if bt474.2.2 = bt478.2.2 then (laws_FnAddresses.j2 kj18 t453 t455 t456 t462 t465 t471 bt474.2.2 (!(bt474.1.toList == bt478.1.toList) || (!(bt474.2.1.toList == bt478.2.1.toList))) t459 t460 bt474.1 bt474.2.1) else (laws_FnAddresses.j2 kj18 t453 t455 t456 t462 t465 t471 bt474.2.2 true t459 t460 bt474.1 bt474.2.1)))) = some r:=H
        have A32:=aM A320
        clear A320
        replace H:=Option.bind_eq_some_iff.mp H
        obtain ⟨⟨t474,t475,t476⟩,A330,H⟩:=H
        replace H:((spec_SequenceOfAddress.f kj18 t471).bind fun bt478=>(if t476 = bt478.2.2 then (laws_FnAddresses.j2 kj18 t453 t455 t456 t462 t465 t471 t476 (!(t474.toList == bt478.1.toList) || (!(t475.toList == bt478.2.1.toList))) t459 t460 t474 t475) else (laws_FnAddresses.j2 kj18 t453 t455 t456 t462 t465 t471 t476 true t459 t460 t474 t475))) = some r:=H
        have A33:=aM A330
        clear A330
        replace H:=Option.bind_eq_some_iff.mp H
        obtain ⟨⟨t478,t479,t480⟩,A340,H⟩:=H
        replace H:(if t476 = t480 then (laws_FnAddresses.j2 kj18 t453 t455 t456 t462 t465 t471 t476 (!(t474.toList == t478.toList) || (!(t475.toList == t479.toList))) t459 t460 t474 t475) else (laws_FnAddresses.j2 kj18 t453 t455 t456 t462 t465 t471 t476 true t459 t460 t474 t475)) = some r:=H
        have A34:=aM A340
        clear A340
        have HC35:=aM H
        clear H
        go_upto_region 16 with (first|((with_reducible refine gate_callee (f:=12) rfl ?_);refine goesL_ (some 75) rfl rfl Try.func12 (by kernel_rfl) rfl #[.slice A0 l0.length c0] rfl (by (try simp only [sM,sC,sN]);first|done|rfl|(simp only [List.length_drop,List.length_take];rfl)) ?_;(with_reducible refine (spec_DrawSequenceOfAddress.calls kj18 _ _ l0 t471 _ ?side1 ?side2 A32.out).mono ?_);(case side1=>repeat (first|exact (Kd.C_below HR0.out HB.out)|(with_reducible refine cA ?_ _)|(with_reducible refine cN ?_ _)|(with_reducible refine cD ?_)));(case side2=>exact HC0.out);rintro e w36 ⟨v472,rfl,ho0,hb⟩;refine ⟨_,rfl,?_⟩;have n0_:=aM (Kd.R_elder' (by (with_reducible repeat (first|apply rA|apply rN|apply rD));exact HO_10.out) (Kd.R_base ho0) hb);have n1_:=aM (Kd.R_lower (Kd.R_new' ho0 (Kd.R_lt (by (with_reducible repeat (first|apply rA|apply rN|apply rD));exact HO_10.out))) (below_size (by repeat (first|(with_reducible first|exact HB.out|apply zA|apply zN|apply zD|refine zS ?_ GE454.out|refine zS ?_ GE461.out)|exact HB.out))));have n2_:=aM (blk_below (g:=gb454) (o:=.cells #[.string t451,.string t452] 25 (0,0)) (by (with_reducible repeat (first|apply yN|apply yD|apply yA));exact BK454.out) hb);have n3_:=aM (blk_below (g:=gb461) (o:=.cells #[.string t459,.string t460] 25 (0,0)) (by (with_reducible repeat (first|apply yN|apply yD|apply yA));exact BK461.out) hb);have n4_:=aM (below_step (by repeat (first|(with_reducible first|exact HB.out|apply zA|apply zN|apply zD|refine zS ?_ GE454.out|refine zS ?_ GE461.out)|exact HB.out)) hb);clear HO_10;clear BK454;clear BK461;clear HB;have HO_10:=n0_;have HO473:=n1_;have BK454:=n2_;have BK461:=n3_;have HB:=n4_;clear n0_ n1_ n2_ n3_ n4_;(try clear hb);(try clear hb2);(try clear hk);(try clear hi);(try clear ho0);obtain ⟨Ao37,co37,eo37⟩:=Kd.R_slice HO473.out;subst eo37)|((with_reducible refine gate_callee (f:=13) rfl ?_);refine goesL_ (some 78) rfl rfl Try.func13 (by kernel_rfl) rfl #[.slice Ao37 t471.length co37] rfl (by (try simp only [sM,sC,sN]);first|done|rfl|(simp only [List.length_drop,List.length_take];rfl)) ?_;(with_reducible refine (impl_SequenceOfAddress.calls kj18 _ _ t471 t474 t475 t476 _ ?side1 ?side2 A33.out).mono ?_);(case side1=>repeat (first|exact (Kd.R_reads' HO473.out).2.2|(with_reducible refine cA ?_ _)|(with_reducible refine cN ?_ _)|(with_reducible refine cD ?_)));(case side2=>exact (Kd.R_reads' HO473.out).2.1);rintro e w38 ⟨rfl,hb⟩;refine ⟨_,rfl,?_⟩;replace HO_10:=aM (Kd.R_below (by (with_reducible repeat (first|apply rA|apply rN|apply rD));exact HO_10.out) hb);replace HO473:=aM (Kd.R_below (by (with_reducible repeat (first|apply rA|apply rN|apply rD));exact HO473.out) hb);replace BK454:=aM (blk_below (g:=gb454) (o:=.cells #[.string t451,.string t452] 25 (0,0)) (by (with_reducible repeat (first|apply yN|apply yD|apply yA));exact BK454.out) hb);replace BK461:=aM (blk_below (g:=gb461) (o:=.cells #[.string t459,.string t460] 25 (0,0)) (by (with_reducible repeat (first|apply yN|apply yD|apply yA));exact BK461.out) hb);replace HB:=aM (below_step (by repeat (first|(with_reducible first|exact HB.out|apply zA|apply zN|apply zD|refine zS ?_ GE454.out|refine zS ?_ GE461.out)|exact HB.out)) hb);(try clear hb);(try clear hb2);(try clear hk);(try clear hi))|((with_reducible refine gate_dst (N:=15) rfl ?_);refine box_event ?hg (N:=15) ?hd (cs:=#[.string ⟨#[]⟩,.string ⟨#[]⟩]) (t:=25) ?hr ?_;(case hd=>rfl);(case hg=>rfl);(case hr=>first|(go_simp;done)|(go_simp;rfl));intro gb477 hg w39 hbox hb;have n0_:=aM (Kd.R_below (by (with_reducible repeat (first|apply rA|apply rN|apply rD));exact HO_10.out) hb);have n1_:=aM (Kd.R_below (by (with_reducible repeat (first|apply rA|apply rN|apply rD));exact HO473.out) hb);have n2_:=aM (blk_below (g:=gb454) (o:=.cells #[.string t451,.string t452] 25 (0,0)) (by (with_reducible repeat (first|apply yN|apply yD|apply yA));exact BK454.out) hb);have n3_:=aM (blk_below (g:=gb461) (o:=.cells #[.string t459,.string t460] 25 (0,0)) (by (with_reducible repeat (first|apply yN|apply yD|apply yA));exact BK461.out) hb);have n4_:=aM (below_step (by repeat (first|(with_reducible first|exact HB.out|apply zA|apply zN|apply zD|refine zS ?_ GE454.out|refine zS ?_ GE461.out)|exact HB.out)) hb);have n5_:=aM (hbox);have n6_:=aM ((by rw [hg];exact (below_size (by repeat (first|(with_reducible first|exact HB.out|apply zA|apply zN|apply zD|refine zS ?_ GE454.out|refine zS ?_ GE461.out)|exact HB.out))):w.heap.size ≤ gb477));have n7_:=aM ((by rw [hg];exact (below_size (by repeat (first|(with_reducible first|exact HB.out|apply zA|apply zN|apply zD|refine zS ?_ GE454.out|refine zS ?_ GE461.out)|exact HB.out))):w.heap.size ≤ gb477));have n8_:=aM ((by rw [hg];exact Nat.ne_of_lt (blk_lt (g:=gb454) (o:=.cells #[.string t451,.string t452] 25 (0,0)) (by (with_reducible repeat (first|apply yN|apply yD|apply yA));exact BK454.out)):gb454 ≠ gb477));have n9_:=aM ((by rw [hg];exact Nat.ne_of_gt (blk_lt (g:=gb454) (o:=.cells #[.string t451,.string t452] 25 (0,0)) (by (with_reducible repeat (first|apply yN|apply yD|apply yA));exact BK454.out)):gb477 ≠ gb454));have n10_:=aM ((by rw [hg];exact Nat.ne_of_lt (blk_lt (g:=gb461) (o:=.cells #[.string t459,.string t460] 25 (0,0)) (by (with_reducible repeat (first|apply yN|apply yD|apply yA));exact BK461.out)):gb461 ≠ gb477));have n11_:=aM ((by rw [hg];exact Nat.ne_of_gt (blk_lt (g:=gb461) (o:=.cells #[.string t459,.string t460] 25 (0,0)) (by (with_reducible repeat (first|apply yN|apply yD|apply yA));exact BK461.out)):gb477 ≠ gb461));clear HO_10;clear HO473;clear BK454;clear BK461;clear HB;have HO_10:=n0_;have HO473:=n1_;have BK454:=n2_;have BK461:=n3_;have HB:=n4_;have BK477:=n5_;have GW477:=n6_;have GE477:=n7_;have NB454_477:=n8_;have NB477_454:=n9_;have NB461_477:=n10_;have NB477_461:=n11_;clear n0_ n1_ n2_ n3_ n4_ n5_ n6_ n7_ n8_ n9_ n10_ n11_;clear hb hbox hg;have hnb40:=NB477_454.out;have hnc40:=NB454_477.out;have hnb41:=NB477_461.out;have hnc41:=NB461_477.out;have hcz42_0:w39.cell? ⟨gb477,0,none⟩ = some (.string ⟨#[]⟩):=(blk_cell BK477.out 0).trans rfl;have hcz42_1:w39.cell? ⟨gb477,1,none⟩ = some (.string ⟨#[]⟩):=(blk_cell BK477.out 1).trans rfl;have hfz42_0:=blk_frozen BK477.out 0;have hfz42_1:=blk_frozen BK477.out 1)|((with_reducible refine gate_callee (f:=14) rfl ?_);refine goesL_ (some 83) rfl rfl Try.func14 (by kernel_rfl) rfl #[.slice Ao37 t471.length co37] rfl (by (try simp only [sM,sC,sN]);first|done|rfl|(simp only [List.length_drop,List.length_take];rfl)) ?_;(with_reducible refine (spec_SequenceOfAddress.calls kj18 _ _ t471 t478 t479 t480 _ ?side1 ?side2 A34.out).mono ?_);(case side1=>refine (Kd.R_reads' (e:=2) (base:=w.heap.size) (ok:=fun k_=>(True ∧ some k_ ≠ (v463:Value).ownBlock)) (n:=t471.length) (c:=co37) ?_).2.2;exact (by (with_reducible repeat (first|apply rA|apply rN|apply rD));exact (Kd.R_mono (Kd.R_far (p:=⟨gb477,1,none⟩) (Kd.R_far (p:=⟨gb477,0,none⟩) (Kd.R_types HO473.out BK477.out (by decide)) (fun _ hk=>hk.2) (.string t474)) (fun _ hk=>hk.2) (.string t475)) (fun _ h_=>h_.1))));(case side2=>exact (Kd.R_reads' HO473.out).2.1);rintro e w43 ⟨rfl,hb⟩;refine ⟨_,rfl,?_⟩;replace HO_10:=aM (Kd.R_below (by (with_reducible repeat (first|apply rA|apply rN|apply rD));exact (Kd.R_mono (Kd.R_far (p:=⟨gb477,1,none⟩) (Kd.R_far (p:=⟨gb477,0,none⟩) (Kd.R_types HO_10.out BK477.out (by decide)) (fun _ hk=>hk.2) (.string t474)) (fun _ hk=>hk.2) (.string t475)) (fun _ h_=>h_.1))) hb);replace HO473:=aM (Kd.R_below (by (with_reducible repeat (first|apply rA|apply rN|apply rD));exact (Kd.R_mono (Kd.R_far (p:=⟨gb477,1,none⟩) (Kd.R_far (p:=⟨gb477,0,none⟩) (Kd.R_types HO473.out BK477.out (by decide)) (fun _ hk=>hk.2) (.string t474)) (fun _ hk=>hk.2) (.string t475)) (fun _ h_=>h_.1))) hb);replace BK454:=aM (blk_below (g:=gb454) (o:=.cells #[.string t451,.string t452] 25 (0,0)) (by (with_reducible repeat (first|apply yN|apply yD|apply yA));refine blk_far ?_ NB454_477.out _;(with_reducible repeat (first|apply yN|apply yD|apply yA));refine blk_far ?_ NB454_477.out _;(with_reducible repeat (first|apply yN|apply yD|apply yA));exact BK454.out) hb);replace BK461:=aM (blk_below (g:=gb461) (o:=.cells #[.string t459,.string t460] 25 (0,0)) (by (with_reducible repeat (first|apply yN|apply yD|apply yA));refine blk_far ?_ NB461_477.out _;(with_reducible repeat (first|apply yN|apply yD|apply yA));refine blk_far ?_ NB461_477.out _;(with_reducible repeat (first|apply yN|apply yD|apply yA));exact BK461.out) hb);replace BK477:=aM (blk_below (g:=gb477) (o:=.cells #[.string t474,.string t475] 25 (0,0)) (by (with_reducible repeat (first|apply yN|apply yD|apply yA));refine blk_put (cs:=#[.string t474,.string ⟨#[]⟩]) ?_ 1 _ rfl;(with_reducible repeat (first|apply yN|apply yD|apply yA));refine blk_put (cs:=#[.string ⟨#[]⟩,.string ⟨#[]⟩]) ?_ 0 _ rfl;(with_reducible repeat (first|apply yN|apply yD|apply yA));exact BK477.out) hb);replace HB:=aM (below_step (by repeat (first|(with_reducible first|exact HB.out|apply zA|apply zN|apply zD|refine zS ?_ GE454.out|refine zS ?_ GE461.out|refine zS ?_ GE477.out)|exact HB.out)) hb);(try clear hb);(try clear hb2);(try clear hk);(try clear hi))|((with_reducible refine gate_dst (N:=17) rfl ?_);refine box_event ?hg (N:=17) ?hd (cs:=#[.string ⟨#[]⟩,.string ⟨#[]⟩]) (t:=25) ?hr ?_;(case hd=>rfl);(case hg=>rfl);(case hr=>first|(go_simp;done)|(go_simp;rfl));intro gb481 hg w44 hbox hb;have n0_:=aM (Kd.R_below (by (with_reducible repeat (first|apply rA|apply rN|apply rD));exact HO_10.out) hb);have n1_:=aM (Kd.R_below (by (with_reducible repeat (first|apply rA|apply rN|apply rD));exact HO473.out) hb);have n2_:=aM (blk_below (g:=gb454) (o:=.cells #[.string t451,.string t452] 25 (0,0)) (by (with_reducible repeat (first|apply yN|apply yD|apply yA));exact BK454.out) hb);have n3_:=aM (blk_below (g:=gb461) (o:=.cells #[.string t459,.string t460] 25 (0,0)) (by (with_reducible repeat (first|apply yN|apply yD|apply yA));exact BK461.out) hb);have n4_:=aM (blk_below (g:=gb477) (o:=.cells #[.string t474,.string t475] 25 (0,0)) (by (with_reducible repeat (first|apply yN|apply yD|apply yA));exact BK477.out) hb);have n5_:=aM (below_step (by repeat (first|(with_reducible first|exact HB.out|apply zA|apply zN|apply zD|refine zS ?_ GE454.out|refine zS ?_ GE461.out|refine zS ?_ GE477.out)|exact HB.out)) hb);have n6_:=aM (hbox);have n7_:=aM ((by rw [hg];exact (below_size (by repeat (first|(with_reducible first|exact HB.out|apply zA|apply zN|apply zD|refine zS ?_ GE454.out|refine zS ?_ GE461.out|refine zS ?_ GE477.out)|exact HB.out))):w.heap.size ≤ gb481));have n8_:=aM ((by rw [hg];exact (below_size (by repeat (first|(with_reducible first|exact HB.out|apply zA|apply zN|apply zD|refine zS ?_ GE454.out|refine zS ?_ GE461.out|refine zS ?_ GE477.out)|exact HB.out))):w.heap.size ≤ gb481));have n9_:=aM ((by rw [hg];exact Nat.ne_of_lt (blk_lt (g:=gb454) (o:=.cells #[.string t451,.string t452] 25 (0,0)) (by (with_reducible repeat (first|apply yN|apply yD|apply yA));exact BK454.out)):gb454 ≠ gb481));have n10_:=aM ((by rw [hg];exact Nat.ne_of_gt (blk_lt (g:=gb454) (o:=.cells #[.string t451,.string t452] 25 (0,0)) (by (with_reducible repeat (first|apply yN|apply yD|apply yA));exact BK454.out)):gb481 ≠ gb454));have n11_:=aM ((by rw [hg];exact Nat.ne_of_lt (blk_lt (g:=gb461) (o:=.cells #[.string t459,.string t460] 25 (0,0)) (by (with_reducible repeat (first|apply yN|apply yD|apply yA));exact BK461.out)):gb461 ≠ gb481));have n12_:=aM ((by rw [hg];exact Nat.ne_of_gt (blk_lt (g:=gb461) (o:=.cells #[.string t459,.string t460] 25 (0,0)) (by (with_reducible repeat (first|apply yN|apply yD|apply yA));exact BK461.out)):gb481 ≠ gb461));have n13_:=aM ((by rw [hg];exact Nat.ne_of_lt (blk_lt (g:=gb477) (o:=.cells #[.string t474,.string t475] 25 (0,0)) (by (with_reducible repeat (first|apply yN|apply yD|apply yA));exact BK477.out)):gb477 ≠ gb481));have n14_:=aM ((by rw [hg];exact Nat.ne_of_gt (blk_lt (g:=gb477) (o:=.cells #[.string t474,.string t475] 25 (0,0)) (by (with_reducible repeat (first|apply yN|apply yD|apply yA));exact BK477.out)):gb481 ≠ gb477));clear HO_10;clear HO473;clear BK454;clear BK461;clear BK477;clear HB;have HO_10:=n0_;have HO473:=n1_;have BK454:=n2_;have BK461:=n3_;have BK477:=n4_;have HB:=n5_;have BK481:=n6_;have GW481:=n7_;have GE481:=n8_;have NB454_481:=n9_;have NB481_454:=n10_;have NB461_481:=n11_;have NB481_461:=n12_;have NB477_481:=n13_;have NB481_477:=n14_;clear n0_ n1_ n2_ n3_ n4_ n5_ n6_ n7_ n8_ n9_ n10_ n11_ n12_ n13_ n14_;clear hb hbox hg;have hnb45:=NB481_454.out;have hnc45:=NB454_481.out;have hnb46:=NB481_461.out;have hnc46:=NB461_481.out;have hnb47:=NB481_477.out;have hnc47:=NB477_481.out;have hcz48_0:w44.cell? ⟨gb481,0,none⟩ = some (.string ⟨#[]⟩):=(blk_cell BK481.out 0).trans rfl;have hcz48_1:w44.cell? ⟨gb481,1,none⟩ = some (.string ⟨#[]⟩):=(blk_cell BK481.out 1).trans rfl;have hfz48_0:=blk_frozen BK481.out 0;have hfz48_1:=blk_frozen BK481.out 1))
        (try simp only [Act.put,sI,sZ,sS])
        go_cut [93] (fun v93 wc=>∃ (kq:Nat) (x93_34:Bool),v93 = .bool x93_34 ∧ Aside0 (laws_FnAddresses.j2 kq t453 t455 t456 t462 t465 t471 t476 x93_34 t459 t460 t474 t475 = some r) ∧ Aside0 (kq ≤ kj18) ∧ Aside0 (Kd.R (Kd.int .i64) 2 wc w.heap.size (fun k_=>some k_ ≠ ((.slice Ao37 t471.length co37):Value).ownBlock) v463 t462) ∧ Aside0 (Kd.R (Kd.int .i64) 2 wc w.heap.size (fun k_=>some k_ ≠ (v463:Value).ownBlock) (.slice Ao37 t471.length co37) t471) ∧ Aside0 (wc.heap[gb454]? = some (.cells #[.string t451,.string t452] 25 (0,0))) ∧ Aside0 (wc.heap[gb461]? = some (.cells #[.string t459,.string t460] 25 (0,0))) ∧ Aside0 (wc.heap[gb477]? = some (.cells #[.string t474,.string t475] 25 (0,0))) ∧ Aside0 (wc.heap[gb481]? = some (.cells #[.string t478,.string t479] 25 (0,0))) ∧ Aside0 (Below w.heap.size w wc))
        case first =>
         have H:=HC35.out
         clear HC35
         by_cases c49:t476 = t480
         ·rw [if_pos c49] at H
          have c49b0:(t476 == t480) = true:=beq_iff_eq.mpr c49
          have c49b1:(t476 != t480) = false:=bne_eq_false_iff_eq.mpr c49
          clear c49
          (first|rw [c49b0]|(simp only [i64_w,i32_w];rw [c49b0])|skip)
          have H':=aM H
          clear H
          have hnb50:=NB477_454.out
          have hnc50:=NB454_477.out
          have hnb51:=NB477_461.out
          have hnc51:=NB461_477.out
          have hnb52:=NB477_481.out
          have hnc52:=NB481_477.out
          have hcz53_0:w44.cell? ⟨gb477,0,none⟩ = some (.string t474):=(blk_cell BK477.out 0).trans rfl
          have hcz53_1:w44.cell? ⟨gb477,1,none⟩ = some (.string t475):=(blk_cell BK477.out 1).trans rfl
          have hfz53_0:=blk_frozen BK477.out 0
          have hfz53_1:=blk_frozen BK477.out 1
          have hnb54:=NB481_454.out
          have hnc54:=NB454_481.out
          have hnb55:=NB481_461.out
          have hnc55:=NB461_481.out
          have hcz56_0:w44.cell? ⟨gb481,0,none⟩ = some (.string ⟨#[]⟩):=(blk_cell BK481.out 0).trans rfl
          have hcz56_1:w44.cell? ⟨gb481,1,none⟩ = some (.string ⟨#[]⟩):=(blk_cell BK481.out 1).trans rfl
          have hfz56_0:=blk_frozen BK481.out 0
          have hfz56_1:=blk_frozen BK481.out 1
          go_wp2
          go_meet
          case rel=>exact ⟨_,((!(t474.toList == t478.toList) || (!(t475.toList == t479.toList)))),(by first|rfl|(simp;done)|(simp [*];done)),H',⟨by have:=HJ6.out;have:=HJ18.out;first|omega|exact Nat.le_refl _⟩,⟨by (with_reducible repeat (first|apply rA|apply rN|apply rD));exact Kd.R_mono (Kd.R_far (p:=⟨gb481,1,none⟩) (Kd.R_far (p:=⟨gb481,0,none⟩) (Kd.R_types HO_10.out BK481.out (by decide)) (fun _ hk=>hk.2) (.string t478)) (fun _ hk=>hk.2) (.string t479)) (fun _ hk=>hk.1.2)⟩,⟨by (with_reducible repeat (first|apply rA|apply rN|apply rD));exact Kd.R_mono (Kd.R_far (p:=⟨gb481,1,none⟩) (Kd.R_far (p:=⟨gb481,0,none⟩) (Kd.R_types HO473.out BK481.out (by decide)) (fun _ hk=>hk.2) (.string t478)) (fun _ hk=>hk.2) (.string t479)) (fun _ hk=>hk.1.2)⟩,⟨by (with_reducible repeat (first|apply yN|apply yD|apply yA));refine blk_far ?_ NB454_481.out _;(with_reducible repeat (first|apply yN|apply yD|apply yA));refine blk_far ?_ NB454_481.out _;(with_reducible repeat (first|apply yN|apply yD|apply yA));exact BK454.out⟩,⟨by (with_reducible repeat (first|apply yN|apply yD|apply yA));refine blk_far ?_ NB461_481.out _;(with_reducible repeat (first|apply yN|apply yD|apply yA));refine blk_far ?_ NB461_481.out _;(with_reducible repeat (first|apply yN|apply yD|apply yA));exact BK461.out⟩,⟨by (with_reducible repeat (first|apply yN|apply yD|apply yA));refine blk_far ?_ NB477_481.out _;(with_reducible repeat (first|apply yN|apply yD|apply yA));refine blk_far ?_ NB477_481.out _;(with_reducible repeat (first|apply yN|apply yD|apply yA));exact BK477.out⟩,⟨by (with_reducible repeat (first|apply yN|apply yD|apply yA));refine blk_put (cs:=#[.string t478,.string ⟨#[]⟩]) ?_ 1 _ rfl;(with_reducible repeat (first|apply yN|apply yD|apply yA));refine blk_put (cs:=#[.string ⟨#[]⟩,.string ⟨#[]⟩]) ?_ 0 _ rfl;(with_reducible repeat (first|apply yN|apply yD|apply yA));exact BK481.out⟩,⟨by repeat (first|(with_reducible first|exact HB.out|apply zA|apply zN|apply zD|refine zS ?_ GE454.out|refine zS ?_ GE461.out|refine zS ?_ GE477.out|refine zS ?_ GE481.out)|exact HB.out)⟩⟩
         ·rw [if_neg c49] at H
          have c49b0:(t476 == t480) = false:=beq_eq_false_iff_ne.mpr c49
          have c49b1:(t476 != t480) = true:=bne_iff_ne.mpr c49
          (first|rw [c49b0]|(simp only [i64_w,i32_w];rw [c49b0])|skip)
          have H':=aM H
          clear H
          go_wp2
          go_meet
          case rel=>exact ⟨_,(true),(by first|rfl|(simp;done)|(simp [*];done)),H',⟨by have:=HJ6.out;have:=HJ18.out;first|omega|exact Nat.le_refl _⟩,⟨by (with_reducible repeat (first|apply rA|apply rN|apply rD));exact Kd.R_mono (Kd.R_far (p:=⟨gb481,1,none⟩) (Kd.R_far (p:=⟨gb481,0,none⟩) (Kd.R_types HO_10.out BK481.out (by decide)) (fun _ hk=>hk.2) (.string t478)) (fun _ hk=>hk.2) (.string t479)) (fun _ hk=>hk.1.2)⟩,⟨by (with_reducible repeat (first|apply rA|apply rN|apply rD));exact Kd.R_mono (Kd.R_far (p:=⟨gb481,1,none⟩) (Kd.R_far (p:=⟨gb481,0,none⟩) (Kd.R_types HO473.out BK481.out (by decide)) (fun _ hk=>hk.2) (.string t478)) (fun _ hk=>hk.2) (.string t479)) (fun _ hk=>hk.1.2)⟩,⟨by (with_reducible repeat (first|apply yN|apply yD|apply yA));refine blk_far ?_ NB454_481.out _;(with_reducible repeat (first|apply yN|apply yD|apply yA));refine blk_far ?_ NB454_481.out _;(with_reducible repeat (first|apply yN|apply yD|apply yA));exact BK454.out⟩,⟨by (with_reducible repeat (first|apply yN|apply yD|apply yA));refine blk_far ?_ NB461_481.out _;(with_reducible repeat (first|apply yN|apply yD|apply yA));refine blk_far ?_ NB461_481.out _;(with_reducible repeat (first|apply yN|apply yD|apply yA));exact BK461.out⟩,⟨by (with_reducible repeat (first|apply yN|apply yD|apply yA));refine blk_far ?_ NB477_481.out _;(with_reducible repeat (first|apply yN|apply yD|apply yA));refine blk_far ?_ NB477_481.out _;(with_reducible repeat (first|apply yN|apply yD|apply yA));exact BK477.out⟩,⟨by (with_reducible repeat (first|apply yN|apply yD|apply yA));refine blk_put (cs:=#[.string t478,.string ⟨#[]⟩]) ?_ 1 _ rfl;(with_reducible repeat (first|apply yN|apply yD|apply yA));refine blk_put (cs:=#[.string ⟨#[]⟩,.string ⟨#[]⟩]) ?_ 0 _ rfl;(with_reducible repeat (first|apply yN|apply yD|apply yA));exact BK481.out⟩,⟨by repeat (first|(with_reducible first|exact HB.out|apply zA|apply zN|apply zD|refine zS ?_ GE454.out|refine zS ?_ GE461.out|refine zS ?_ GE477.out|refine zS ?_ GE481.out)|exact HB.out)⟩⟩
        case rest =>
         clear HC35
         try clear c1
         try clear c2
         try clear p2
         try clear c3
         try clear c4
         try clear c5
         try clear c6
         try clear c7
         try clear c8
         try clear c9
         try clear c10
         try clear c12
         try clear c13
         try clear c14
         try clear c14b0
         try clear c14b1
         try clear c15
         try clear c22
         try clear c27
         try clear c27b0
         try clear c27b1
         try clear c31
         try clear c40
         try clear c41
         try clear c45
         try clear c46
         try clear c47
         try clear c49
         try clear c49b0
         try clear c49b1
         try clear c50
         try clear c51
         try clear c52
         try clear c54
         try clear c55
         try clear hcz10_0
         try clear hcz10_1
         try clear hcz12_0
         try clear hcz12_1
         try clear hcz23_0
         try clear hcz23_1
         try clear hcz25_0
         try clear hcz25_1
         try clear hcz42_0
         try clear hcz42_1
         try clear hcz48_0
         try clear hcz48_1
         try clear hcz53_0
         try clear hcz53_1
         try clear hcz56_0
         try clear hcz56_1
         try clear hfz10_0
         try clear hfz10_1
         try clear hfz12_0
         try clear hfz12_1
         try clear hfz23_0
         try clear hfz23_1
         try clear hfz25_0
         try clear hfz25_1
         try clear hfz42_0
         try clear hfz42_1
         try clear hfz48_0
         try clear hfz48_1
         try clear hfz53_0
         try clear hfz53_1
         try clear hfz56_0
         try clear hfz56_1
         try clear p2
         obtain ⟨kq,x93_34,rfl,HA,HJ34,HO_10,HO_14,BK454,BK461,BK477,BK481,HB⟩:=hcut
         cases kq with
         | zero=>exact absurd HA.out (by simp [laws_FnAddresses.j2])
         | succ kj34 =>
          have H:=HA.out
          clear HA
          simp only [laws_FnAddresses.j2] at H
          by_cases c57:x93_34 = true
          ·subst c57
           have H1:(some false) = some r:=by rw [if_pos rfl] at H;exact H
           clear H
           have H:=H1
           clear H1
           obtain rfl:=Option.some.inj H
           go_wp2
           go_ret
           exact ⟨by first|rfl|(simp [errW_none,errW_some] <;> rfl)|(simp [*,errW_none,errW_some] <;> rfl),HB.out⟩
          ·replace c57:=Bool.eq_false_iff.mpr c57
           subst c57
           have H1:(if t465 = 0 then (laws_FnAddresses.l0 kj34 t453 t455 t456 t462 t471 t476 0 t459 t460 t474 t475) else (laws_FnAddresses.j4 kj34 t453 t455 t456 t471 t476 t474 t475)) = some r:=by rw [if_neg (show ¬ (false = true) by decide)] at H;exact H
           clear H
           have H:=H1
           clear H1
           have HC58:=aM H
           clear H
           go_upto_if 95 with (fail)
           go_cut [] (fun wc=>∃ (kq:Nat),Aside0 (laws_FnAddresses.j4 kq t453 t455 t456 t471 t476 t474 t475 = some r) ∧ Aside0 (kq ≤ kj34) ∧ Aside0 (Kd.R (Kd.int .i64) 2 wc w.heap.size (fun _=>True) (.slice Ao37 t471.length co37) t471) ∧ Aside0 (wc.heap[gb454]? = some (.cells #[.string t451,.string t452] 25 (0,0))) ∧ Aside0 (wc.heap[gb461]? = some (.cells #[.string t459,.string t460] 25 (0,0))) ∧ Aside0 (wc.heap[gb477]? = some (.cells #[.string t474,.string t475] 25 (0,0))) ∧ Aside0 (wc.heap[gb481]? = some (.cells #[.string t478,.string t479] 25 (0,0))) ∧ Aside0 (Below w.heap.size w wc))
           case first =>
            have H:=HC58.out
            clear HC58
            by_cases c59:t465 = 0
            ·rw [if_pos c59] at H
             have c59b0:(t465 == 0) = true:=beq_iff_eq.mpr c59
             have c59b1:(t465 != 0) = false:=bne_eq_false_iff_eq.mpr c59
             clear c59
             (first|rw [c59b0]|(simp only [i64_w,i32_w];rw [c59b0])|skip)
             have H':=aM H
             clear H
             go_wp2
             go_loopg [19] kj34 (fun kq v19 w'=>∃ (x19_4:Int),v19 = .int .i64 x19_4 ∧ Aside0 (laws_FnAddresses.l0 kq t453 t455 t456 t462 t471 t476 x19_4 t459 t460 t474 t475 = some r) ∧ Aside0 (kq ≤ kj34) ∧ Aside0 (Kd.R (Kd.int .i64) 2 w' w.heap.size (fun k_=>some k_ ≠ ((.slice Ao37 t471.length co37):Value).ownBlock) v463 t462) ∧ Aside0 (Kd.R (Kd.int .i64) 2 w' w.heap.size (fun k_=>some k_ ≠ (v463:Value).ownBlock) (.slice Ao37 t471.length co37) t471) ∧ Aside0 (w'.heap[gb454]? = some (.cells #[.string t451,.string t452] 25 (0,0))) ∧ Aside0 (w'.heap[gb461]? = some (.cells #[.string t459,.string t460] 25 (0,0))) ∧ Aside0 (w'.heap[gb477]? = some (.cells #[.string t474,.string t475] 25 (0,0))) ∧ Aside0 (w'.heap[gb481]? = some (.cells #[.string t478,.string t479] 25 (0,0))) ∧ Aside0 (Below w.heap.size w w'))
             case atStart=>exact ⟨(0),(by first|rfl|(simp;done)|(simp [*];done)),H',⟨Nat.le_refl _⟩,⟨HO_10.out⟩,⟨HO_14.out⟩,⟨BK454.out⟩,⟨BK461.out⟩,⟨BK477.out⟩,⟨BK481.out⟩,⟨HB.out⟩⟩
             case round =>
              clear H'
              try clear c1
              try clear c2
              try clear p2
              try clear c3
              try clear c4
              try clear c5
              try clear c6
              try clear c7
              try clear c8
              try clear c9
              try clear c10
              try clear c12
              try clear c13
              try clear c14
              try clear c14b0
              try clear c14b1
              try clear c15
              try clear c22
              try clear c27
              try clear c27b0
              try clear c27b1
              try clear c31
              try clear c40
              try clear c41
              try clear c45
              try clear c46
              try clear c47
              try clear c49
              try clear c49b0
              try clear c49b1
              try clear c50
              try clear c51
              try clear c52
              try clear c54
              try clear c55
              try clear c57
              try clear c59
              try clear c59b0
              try clear c59b1
              try clear hcz10_0
              try clear hcz10_1
              try clear hcz12_0
              try clear hcz12_1
              try clear hcz23_0
              try clear hcz23_1
              try clear hcz25_0
              try clear hcz25_1
              try clear hcz42_0
              try clear hcz42_1
              try clear hcz48_0
              try clear hcz48_1
              try clear hcz53_0
              try clear hcz53_1
              try clear hcz56_0
              try clear hcz56_1
              try clear hfz10_0
              try clear hfz10_1
              try clear hfz12_0
              try clear hfz12_1
              try clear hfz23_0
              try clear hfz23_1
              try clear hfz25_0
              try clear hfz25_1
              try clear hfz42_0
              try clear hfz42_1
              try clear hfz48_0
              try clear hfz48_1
              try clear hfz53_0
              try clear hfz53_1
              try clear hfz56_0
              try clear hfz56_1
              try clear p2
              obtain ⟨x19_4,rfl,HA,HK4,HO_10,HO_14,BK454,BK461,BK477,BK481,HB⟩:=hrel
              cases gk with
              | zero=>exact absurd HA.out (by simp [laws_FnAddresses.l0])
              | succ k4 =>
               have H:=HA.out
               clear HA
               simp only [laws_FnAddresses.l0] at H
               by_cases c60:(wrap64 (x19_4 + 1)) < (t462.length:Int)
               ·rw [if_pos c60] at H
                have c60b0:decide ((wrap64 (x19_4 + 1)) < (t462.length:Int)) = true:=decide_eq_true c60
                clear c60
                by_cases c61:0 ≤ x19_4
                ·rw [if_pos c61] at H
                 have c61b0:decide (0 ≤ x19_4) = true:=decide_eq_true c61
                 clear c61
                 by_cases c62:x19_4 < (t462.length:Int)
                 ·rw [if_pos c62] at H
                  have c62b0:decide (x19_4 < (t462.length:Int)) = true:=decide_eq_true c62
                  clear c62
                  replace H:=Option.bind_eq_some_iff.mp H
                  obtain ⟨⟨t483,t484⟩,A630,H⟩:=H
                  replace H:(if t484 = 0 then (if 0 ≤ (wrap64 (x19_4 + 1)) then (if t483 = (rd t462 (wrap64 (x19_4 + 1))) then (laws_FnAddresses.l0 k4 t453 t455 t456 t462 t471 t476 (wrap64 (x19_4 + 1)) t459 t460 t474 t475) else (some false)) else (none)) else (some false)) = some r:=H
                  have A63:=aM A630
                  clear A630
                  by_cases c64:t484 = 0
                  ·rw [if_pos c64] at H
                   have c64b0:(t484 == 0) = true:=beq_iff_eq.mpr c64
                   have c64b1:(t484 != 0) = false:=bne_eq_false_iff_eq.mpr c64
                   clear c64
                   obtain ⟨ji65,hji65⟩:∃ j_:Int,(wrap64 (x19_4 + 1)) = j_:=⟨_,rfl⟩
                   replace H:(if 0 ≤ (ji65) then (if t483 = (rd t462 (ji65)) then (laws_FnAddresses.l0 k4 t453 t455 t456 t462 t471 t476 ji65 t459 t460 t474 t475) else (some false)) else (none)) = some r:=by first|(rw [hji65] at H;exact H)|(simp only [hji65] at H ⊢;exact H)
                   (try rw [hji65] at c60b0)
                   (try rw [hji65] at A63)
                   have hji65w:(IntKind.i64.wrap (x19_4 + 1)) = ji65:=(i64_w _).trans hji65
                   by_cases c66:0 ≤ (ji65)
                   ·rw [if_pos c66] at H
                    have c66b0:decide (0 ≤ (ji65)) = true:=decide_eq_true c66
                    clear c66
                    by_cases c67:t483 = (rd t462 (ji65))
                    ·rw [if_pos c67] at H
                     have c67b0:(t483 == (rd t462 (ji65))) = true:=beq_iff_eq.mpr c67
                     have c67b1:(t483 != (rd t462 (ji65))) = false:=bne_eq_false_iff_eq.mpr c67
                     clear c67
                     have H':=aM H
                     clear H
                     obtain ⟨Ao68,co68,eo68⟩:=Kd.R_slice HO_10.out
                     subst eo68
                     try go_wp2
                     replace HO_10:=aM (rD HO_10.out)
                     replace HO_14:=aM (rD HO_14.out)
                     replace BK454:=aM (yD BK454.out)
                     replace BK461:=aM (yD BK461.out)
                     replace BK477:=aM (yD BK477.out)
                     replace BK481:=aM (yD BK481.out)
                     replace HB:=aM (zD HB.out)
                     have p482:0 ≤ (x19_4:Int):=of_decide_eq_true (by first|(with_reducible assumption)|assumption)
                     have q482:x19_4 < (t462.length:Int):=of_decide_eq_true (by first|(with_reducible assumption)|assumption)
                     obtain ⟨ad482,e482,hx482_0⟩:=Kd.at_int (Kd.R_reads' HO_10.out).2.2 x19_4 p482 q482
                     cases e482
                     replace p482:=eq_true p482
                     replace q482:=eq_true q482
                     refine start_ (n:=11) (S:=fun w'=>w'.cell? ⟨gb461,0,none⟩ = some (.string t459) ∧ w'.cell? ⟨gb461,1,none⟩ = some (.string t460) ∧ w'.cell? (ad482.add (x19_4).toNat) = some (.int .i64 (rd t462 x19_4))) (ds:=[]) #[fF,fF,fF,fF,fF,fF,fF,fF,fF,fF,fF] (by kernel_rfl) rfl rfl ⟨(blk_cell BK461.out 0).trans rfl,(blk_cell BK461.out 1).trans rfl,hx482_0⟩ (fun hHeld=>?_);refine with_tabW laws_FnAddresses.tab22 laws_FnAddresses.bits22 (fun HT_ HW_=>?_)
                     generalize wr.drew = w69 at HO_10 HO_14 BK454 BK461 BK477 BK481 HB hx482_0 hHeld ⊢
                     refine pure_ (i:=1) (N:=some 105) (v:=?_) (a':=?_) #[fF,tT,fF,fF,fF,fF,fF,fF,fF,fF,fF] rfl rfl (any_of HT_.out (by kernel_rfl)) (fun _ _ _ h=>h) (Or.inl ⟨by rfl,?_⟩) ?_ ?_
                     rotate_left
                     ·intro w'
                      go_simp
                      with_reducible rfl
                     rotate_left
                     ·simp only [Act.put,sI,sZ,sS,i64_w,i32_w]
                      rfl
                     refine pure_ (i:=2) (N:=some 106) (v:=?_) (a':=?_) #[fF,tT,tT,fF,fF,fF,fF,fF,fF,fF,fF] rfl rfl (any_of HT_.out (by kernel_rfl)) (fun _ _ _ h=>h) (Or.inl ⟨by rfl,?_⟩) ?_ ?_
                     rotate_left
                     ·intro w'
                      go_simp
                      with_reducible rfl
                     rotate_left
                     ·simp only [Act.put,sI,sZ,sS,i64_w,i32_w]
                      rfl
                     refine pure_ (i:=3) (N:=some 107) (v:=?_) (a':=?_) #[fF,tT,tT,tT,fF,fF,fF,fF,fF,fF,fF] rfl rfl (any_of HT_.out (by kernel_rfl)) (fun _ _ _ h=>h) (Or.inl ⟨by rfl,?_⟩) ?_ ?_
                     rotate_left
                     ·intro w'
                      go_simp
                      with_reducible rfl
                     rotate_left
                     ·simp only [Act.put,sI,sZ,sS,i64_w,i32_w]
                      rfl
                     refine take_ (i:=0) (N:=some 104) (v:=?_) (a':=?_) #[tT,tT,tT,tT,fF,fF,fF,fF,fF,fF,fF] rfl rfl (take_ofW HT_.out HW_.out (by kernel_rfl)) (fun _ _ _ h=>h) (Or.inl ⟨by rfl,?_⟩) hHeld ?_ ?_
                     rotate_left
                     ·rintro w' ⟨s0,s1,s2⟩
                      go_simp
                      with_reducible rfl
                     rotate_left
                     ·simp only [Act.put,sI,sZ,sS,i64_w,i32_w]
                      rfl
                     refine take_ (i:=4) (N:=some 108) (v:=?_) (a':=?_) #[tT,tT,tT,tT,tT,fF,fF,fF,fF,fF,fF] rfl rfl (take_ofW HT_.out HW_.out (by kernel_rfl)) (fun _ _ _ h=>h) (Or.inl ⟨by rfl,?_⟩) hHeld ?_ ?_
                     rotate_left
                     ·rintro w' ⟨s0,s1,s2⟩
                      go_simp
                      with_reducible rfl
                     rotate_left
                     ·simp only [Act.put,sI,sZ,sS,i64_w,i32_w]
                      rfl
                     refine one_ (i:=5) (N:=some 109) #[tT,tT,tT,tT,tT,tT,fF,fF,fF,fF,fF] rfl rfl (one_of HT_.out (by kernel_rfl)) (by decide) (fun K hK=>?_)
                     refine goes_ Try.func6 (by kernel_rfl) rfl #[.agg #[.string t459,.string t460],.int .i64 (rd t462 x19_4)] (by rfl) rfl rfl (by (try simp only [sM,sC,sN]);first|done|rfl|(simp only [List.length_drop,List.length_take];rfl)) ?_
                     with_reducible refine (impl_RhoOf.calls k4 t459 t460 (rd t462 x19_4) t483 t484 _ A63.out).mono ?_
                     rintro e w70 ⟨rfl,hb⟩
                     have HS2_:=(hb.cell (World.block_lt_of_cell? _ _ (hHeld.2.2))).trans (hHeld.2.2)
                     refine ⟨_,rfl,?_⟩
                     replace HO_10:=aM (Kd.R_below HO_10.out hb)
                     replace HO_14:=aM (Kd.R_below HO_14.out hb)
                     replace BK454:=aM (blk_below (g:=gb454) (o:=.cells #[.string t451,.string t452] 25 (0,0)) BK454.out hb)
                     replace BK461:=aM (blk_below (g:=gb461) (o:=.cells #[.string t459,.string t460] 25 (0,0)) BK461.out hb)
                     replace BK477:=aM (blk_below (g:=gb477) (o:=.cells #[.string t474,.string t475] 25 (0,0)) BK477.out hb)
                     replace BK481:=aM (blk_below (g:=gb481) (o:=.cells #[.string t478,.string t479] 25 (0,0)) BK481.out hb)
                     replace HB:=aM (below_step HB.out hb)
                     (try clear hb)
                     refine hK.out _ _ ⟨(blk_cell BK461.out 0).trans rfl,(blk_cell BK461.out 1).trans rfl,HS2_⟩ (fun hHeld=>?_)
                     clear hK K
                     refine norm_ (a':=?_) ?_ ?_
                     rotate_left
                     ·show Act.put _ (some 109) _ = _
                      simp only [Act.put,sI,sZ,sS,i64_w,i32_w]
                      rfl
                     refine pure_ (i:=6) (N:=some 103) (v:=?_) (a':=?_) #[tT,tT,tT,tT,tT,tT,tT,fF,fF,fF,fF] rfl rfl (any_of HT_.out (by kernel_rfl)) (fun _ _ _ h=>h) (Or.inl ⟨by rfl,?_⟩) ?_ ?_
                     rotate_left
                     ·intro w'
                      go_simp
                      with_reducible rfl
                     rotate_left
                     ·simp only [Act.put,sI,sZ,sS,i64_w,i32_w]
                      rfl
                     refine pure_ (i:=7) (N:=some 110) (v:=?_) (a':=?_) #[tT,tT,tT,tT,tT,tT,tT,tT,fF,fF,fF] rfl rfl (any_of HT_.out (by kernel_rfl)) (fun _ _ _ h=>h) (Or.inl ⟨by rfl,?_⟩) ?_ ?_
                     rotate_left
                     ·intro w'
                      go_simp
                      with_reducible rfl
                     rotate_left
                     ·simp only [Act.put,sI,sZ,sS,i64_w,i32_w]
                      rfl
                     refine pure_ (i:=8) (N:=some 111) (v:=?_) (a':=?_) #[tT,tT,tT,tT,tT,tT,tT,tT,tT,fF,fF] rfl rfl (any_of HT_.out (by kernel_rfl)) (fun _ _ _ h=>h) (Or.inl ⟨by rfl,?_⟩) ?_ ?_
                     rotate_left
                     ·intro w'
                      go_simp
                      with_reducible rfl
                     rotate_left
                     ·simp only [Act.put,sI,sZ,sS,i64_w,i32_w]
                      rfl
                     refine pure_ (i:=9) (N:=some 20) (v:=?_) (a':=?_) #[tT,tT,tT,tT,tT,tT,tT,tT,tT,tT,fF] rfl rfl (any_of HT_.out (by kernel_rfl)) (fun _ _ _ h=>h) (Or.inl ⟨by rfl,?_⟩) ?_ ?_
                     rotate_left
                     ·intro w'
                      go_simp
                      with_reducible rfl
                     rotate_left
                     ·simp only [Act.put,sI,sZ,sS,i64_w,i32_w]
                      rfl
                     refine pure_ (i:=10) (N:=some 21) (v:=?_) (a':=?_) #[tT,tT,tT,tT,tT,tT,tT,tT,tT,tT,tT] rfl rfl (any_of HT_.out (by kernel_rfl)) (fun _ _ _ h=>h) (Or.inl ⟨by rfl,?_⟩) ?_ ?_
                     rotate_left
                     ·intro w'
                      go_simp
                      with_reducible rfl
                     rotate_left
                     ·simp only [Act.put,sI,sZ,sS,i64_w,i32_w]
                      rfl
                     refine done_ (done_of HT_.out (by kernel_rfl)) ?_
                     have p485:0 ≤ ((ji65):Int):=of_decide_eq_true (by first|(with_reducible assumption)|assumption)
                     have q485:(ji65) < (t462.length:Int):=of_decide_eq_true (by first|(with_reducible assumption)|assumption)
                     obtain ⟨ad485,e485,hx485_0⟩:=Kd.at_int (Kd.R_reads' HO_10.out).2.2 (ji65) p485 q485
                     obtain rfl:ad482 = ad485:=(by injection e485)
                     replace p485:=eq_true p485
                     replace q485:=eq_true q485
                     try go_wp2
                     go_roundg k4
                     case measure=>have:=HJ6.out;have:=HJ18.out;have:=HJ34.out;have:=HK4.out;omega
                     case rel=>exact ⟨(ji65),(by first|rfl|(simp;done)|(simp only [← hji65] <;> (first|rfl|simp))|(simp [*];done)),H',⟨by have:=HJ6.out;have:=HJ18.out;have:=HJ34.out;have:=HK4.out;omega⟩,⟨HO_10.out⟩,⟨HO_14.out⟩,⟨BK454.out⟩,⟨BK461.out⟩,⟨BK477.out⟩,⟨BK481.out⟩,⟨HB.out⟩⟩
                    ·rw [if_neg c67] at H
                     have c67b0:(t483 == (rd t462 (ji65))) = false:=beq_eq_false_iff_ne.mpr c67
                     have c67b1:(t483 != (rd t462 (ji65))) = true:=bne_iff_ne.mpr c67
                     obtain rfl:=Option.some.inj H
                     obtain ⟨Ao71,co71,eo71⟩:=Kd.R_slice HO_10.out
                     subst eo71
                     try go_wp2
                     replace HO_10:=aM (rD HO_10.out)
                     replace HO_14:=aM (rD HO_14.out)
                     replace BK454:=aM (yD BK454.out)
                     replace BK461:=aM (yD BK461.out)
                     replace BK477:=aM (yD BK477.out)
                     replace BK481:=aM (yD BK481.out)
                     replace HB:=aM (zD HB.out)
                     have p482:0 ≤ (x19_4:Int):=of_decide_eq_true (by first|(with_reducible assumption)|assumption)
                     have q482:x19_4 < (t462.length:Int):=of_decide_eq_true (by first|(with_reducible assumption)|assumption)
                     obtain ⟨ad482,e482,hx482_0⟩:=Kd.at_int (Kd.R_reads' HO_10.out).2.2 x19_4 p482 q482
                     cases e482
                     replace p482:=eq_true p482
                     replace q482:=eq_true q482
                     refine start_ (n:=11) (S:=fun w'=>w'.cell? ⟨gb461,0,none⟩ = some (.string t459) ∧ w'.cell? ⟨gb461,1,none⟩ = some (.string t460) ∧ w'.cell? (ad482.add (x19_4).toNat) = some (.int .i64 (rd t462 x19_4))) (ds:=[]) #[fF,fF,fF,fF,fF,fF,fF,fF,fF,fF,fF] (by kernel_rfl) rfl rfl ⟨(blk_cell BK461.out 0).trans rfl,(blk_cell BK461.out 1).trans rfl,hx482_0⟩ (fun hHeld=>?_);refine with_tabW laws_FnAddresses.tab22 laws_FnAddresses.bits22 (fun HT_ HW_=>?_)
                     generalize wr.drew = w72 at HO_10 HO_14 BK454 BK461 BK477 BK481 HB hx482_0 hHeld ⊢
                     refine pure_ (i:=1) (N:=some 105) (v:=?_) (a':=?_) #[fF,tT,fF,fF,fF,fF,fF,fF,fF,fF,fF] rfl rfl (any_of HT_.out (by kernel_rfl)) (fun _ _ _ h=>h) (Or.inl ⟨by rfl,?_⟩) ?_ ?_
                     rotate_left
                     ·intro w'
                      go_simp
                      with_reducible rfl
                     rotate_left
                     ·simp only [Act.put,sI,sZ,sS,i64_w,i32_w]
                      rfl
                     refine pure_ (i:=2) (N:=some 106) (v:=?_) (a':=?_) #[fF,tT,tT,fF,fF,fF,fF,fF,fF,fF,fF] rfl rfl (any_of HT_.out (by kernel_rfl)) (fun _ _ _ h=>h) (Or.inl ⟨by rfl,?_⟩) ?_ ?_
                     rotate_left
                     ·intro w'
                      go_simp
                      with_reducible rfl
                     rotate_left
                     ·simp only [Act.put,sI,sZ,sS,i64_w,i32_w]
                      rfl
                     refine pure_ (i:=3) (N:=some 107) (v:=?_) (a':=?_) #[fF,tT,tT,tT,fF,fF,fF,fF,fF,fF,fF] rfl rfl (any_of HT_.out (by kernel_rfl)) (fun _ _ _ h=>h) (Or.inl ⟨by rfl,?_⟩) ?_ ?_
                     rotate_left
                     ·intro w'
                      go_simp
                      with_reducible rfl
                     rotate_left
                     ·simp only [Act.put,sI,sZ,sS,i64_w,i32_w]
                      rfl
                     refine take_ (i:=0) (N:=some 104) (v:=?_) (a':=?_) #[tT,tT,tT,tT,fF,fF,fF,fF,fF,fF,fF] rfl rfl (take_ofW HT_.out HW_.out (by kernel_rfl)) (fun _ _ _ h=>h) (Or.inl ⟨by rfl,?_⟩) hHeld ?_ ?_
                     rotate_left
                     ·rintro w' ⟨s0,s1,s2⟩
                      go_simp
                      with_reducible rfl
                     rotate_left
                     ·simp only [Act.put,sI,sZ,sS,i64_w,i32_w]
                      rfl
                     refine take_ (i:=4) (N:=some 108) (v:=?_) (a':=?_) #[tT,tT,tT,tT,tT,fF,fF,fF,fF,fF,fF] rfl rfl (take_ofW HT_.out HW_.out (by kernel_rfl)) (fun _ _ _ h=>h) (Or.inl ⟨by rfl,?_⟩) hHeld ?_ ?_
                     rotate_left
                     ·rintro w' ⟨s0,s1,s2⟩
                      go_simp
                      with_reducible rfl
                     rotate_left
                     ·simp only [Act.put,sI,sZ,sS,i64_w,i32_w]
                      rfl
                     refine one_ (i:=5) (N:=some 109) #[tT,tT,tT,tT,tT,tT,fF,fF,fF,fF,fF] rfl rfl (one_of HT_.out (by kernel_rfl)) (by decide) (fun K hK=>?_)
                     refine goes_ Try.func6 (by kernel_rfl) rfl #[.agg #[.string t459,.string t460],.int .i64 (rd t462 x19_4)] (by rfl) rfl rfl (by (try simp only [sM,sC,sN]);first|done|rfl|(simp only [List.length_drop,List.length_take];rfl)) ?_
                     with_reducible refine (impl_RhoOf.calls k4 t459 t460 (rd t462 x19_4) t483 t484 _ A63.out).mono ?_
                     rintro e w73 ⟨rfl,hb⟩
                     have HS2_:=(hb.cell (World.block_lt_of_cell? _ _ (hHeld.2.2))).trans (hHeld.2.2)
                     refine ⟨_,rfl,?_⟩
                     replace HO_10:=aM (Kd.R_below HO_10.out hb)
                     replace HO_14:=aM (Kd.R_below HO_14.out hb)
                     replace BK454:=aM (blk_below (g:=gb454) (o:=.cells #[.string t451,.string t452] 25 (0,0)) BK454.out hb)
                     replace BK461:=aM (blk_below (g:=gb461) (o:=.cells #[.string t459,.string t460] 25 (0,0)) BK461.out hb)
                     replace BK477:=aM (blk_below (g:=gb477) (o:=.cells #[.string t474,.string t475] 25 (0,0)) BK477.out hb)
                     replace BK481:=aM (blk_below (g:=gb481) (o:=.cells #[.string t478,.string t479] 25 (0,0)) BK481.out hb)
                     replace HB:=aM (below_step HB.out hb)
                     (try clear hb)
                     refine hK.out _ _ ⟨(blk_cell BK461.out 0).trans rfl,(blk_cell BK461.out 1).trans rfl,HS2_⟩ (fun hHeld=>?_)
                     clear hK K
                     refine norm_ (a':=?_) ?_ ?_
                     rotate_left
                     ·show Act.put _ (some 109) _ = _
                      simp only [Act.put,sI,sZ,sS,i64_w,i32_w]
                      rfl
                     refine pure_ (i:=6) (N:=some 103) (v:=?_) (a':=?_) #[tT,tT,tT,tT,tT,tT,tT,fF,fF,fF,fF] rfl rfl (any_of HT_.out (by kernel_rfl)) (fun _ _ _ h=>h) (Or.inl ⟨by rfl,?_⟩) ?_ ?_
                     rotate_left
                     ·intro w'
                      go_simp
                      with_reducible rfl
                     rotate_left
                     ·simp only [Act.put,sI,sZ,sS,i64_w,i32_w]
                      rfl
                     refine pure_ (i:=7) (N:=some 110) (v:=?_) (a':=?_) #[tT,tT,tT,tT,tT,tT,tT,tT,fF,fF,fF] rfl rfl (any_of HT_.out (by kernel_rfl)) (fun _ _ _ h=>h) (Or.inl ⟨by rfl,?_⟩) ?_ ?_
                     rotate_left
                     ·intro w'
                      go_simp
                      with_reducible rfl
                     rotate_left
                     ·simp only [Act.put,sI,sZ,sS,i64_w,i32_w]
                      rfl
                     refine pure_ (i:=8) (N:=some 111) (v:=?_) (a':=?_) #[tT,tT,tT,tT,tT,tT,tT,tT,tT,fF,fF] rfl rfl (any_of HT_.out (by kernel_rfl)) (fun _ _ _ h=>h) (Or.inl ⟨by rfl,?_⟩) ?_ ?_
                     rotate_left
                     ·intro w'
                      go_simp
                      with_reducible rfl
                     rotate_left
                     ·simp only [Act.put,sI,sZ,sS,i64_w,i32_w]
                      rfl
                     refine pure_ (i:=9) (N:=some 20) (v:=?_) (a':=?_) #[tT,tT,tT,tT,tT,tT,tT,tT,tT,tT,fF] rfl rfl (any_of HT_.out (by kernel_rfl)) (fun _ _ _ h=>h) (Or.inl ⟨by rfl,?_⟩) ?_ ?_
                     rotate_left
                     ·intro w'
                      go_simp
                      with_reducible rfl
                     rotate_left
                     ·simp only [Act.put,sI,sZ,sS,i64_w,i32_w]
                      rfl
                     refine pure_ (i:=10) (N:=some 21) (v:=?_) (a':=?_) #[tT,tT,tT,tT,tT,tT,tT,tT,tT,tT,tT] rfl rfl (any_of HT_.out (by kernel_rfl)) (fun _ _ _ h=>h) (Or.inl ⟨by rfl,?_⟩) ?_ ?_
                     rotate_left
                     ·intro w'
                      go_simp
                      with_reducible rfl
                     rotate_left
                     ·simp only [Act.put,sI,sZ,sS,i64_w,i32_w]
                      rfl
                     refine done_ (done_of HT_.out (by kernel_rfl)) ?_
                     have p485:0 ≤ ((ji65):Int):=of_decide_eq_true (by first|(with_reducible assumption)|assumption)
                     have q485:(ji65) < (t462.length:Int):=of_decide_eq_true (by first|(with_reducible assumption)|assumption)
                     obtain ⟨ad485,e485,hx485_0⟩:=Kd.at_int (Kd.R_reads' HO_10.out).2.2 (ji65) p485 q485
                     obtain rfl:ad482 = ad485:=(by injection e485)
                     replace p485:=eq_true p485
                     replace q485:=eq_true q485
                     try go_wp2
                     go_ret
                     exact ⟨by first|rfl|(simp [errW_none,errW_some] <;> rfl)|(simp only [← hji65];first|rfl|(simp [errW_none,errW_some] <;> rfl))|(simp [*,errW_none,errW_some] <;> rfl),HB.out⟩
                   ·rw [if_neg c66] at H
                    exact absurd H (by simp)
                  ·rw [if_neg c64] at H
                   have c64b0:(t484 == 0) = false:=beq_eq_false_iff_ne.mpr c64
                   have c64b1:(t484 != 0) = true:=bne_iff_ne.mpr c64
                   obtain rfl:=Option.some.inj H
                   obtain ⟨Ao74,co74,eo74⟩:=Kd.R_slice HO_10.out
                   subst eo74
                   try go_wp2
                   replace HO_10:=aM (rD HO_10.out)
                   replace HO_14:=aM (rD HO_14.out)
                   replace BK454:=aM (yD BK454.out)
                   replace BK461:=aM (yD BK461.out)
                   replace BK477:=aM (yD BK477.out)
                   replace BK481:=aM (yD BK481.out)
                   replace HB:=aM (zD HB.out)
                   have p482:0 ≤ (x19_4:Int):=of_decide_eq_true (by first|(with_reducible assumption)|assumption)
                   have q482:x19_4 < (t462.length:Int):=of_decide_eq_true (by first|(with_reducible assumption)|assumption)
                   obtain ⟨ad482,e482,hx482_0⟩:=Kd.at_int (Kd.R_reads' HO_10.out).2.2 x19_4 p482 q482
                   cases e482
                   replace p482:=eq_true p482
                   replace q482:=eq_true q482
                   refine start_ (n:=11) (S:=fun w'=>w'.cell? ⟨gb461,0,none⟩ = some (.string t459) ∧ w'.cell? ⟨gb461,1,none⟩ = some (.string t460) ∧ w'.cell? (ad482.add (x19_4).toNat) = some (.int .i64 (rd t462 x19_4))) (ds:=[]) #[fF,fF,fF,fF,fF,fF,fF,fF,fF,fF,fF] (by kernel_rfl) rfl rfl ⟨(blk_cell BK461.out 0).trans rfl,(blk_cell BK461.out 1).trans rfl,hx482_0⟩ (fun hHeld=>?_);refine with_tabW laws_FnAddresses.tab22 laws_FnAddresses.bits22 (fun HT_ HW_=>?_)
                   generalize wr.drew = w75 at HO_10 HO_14 BK454 BK461 BK477 BK481 HB hx482_0 hHeld ⊢
                   refine pure_ (i:=1) (N:=some 105) (v:=?_) (a':=?_) #[fF,tT,fF,fF,fF,fF,fF,fF,fF,fF,fF] rfl rfl (any_of HT_.out (by kernel_rfl)) (fun _ _ _ h=>h) (Or.inl ⟨by rfl,?_⟩) ?_ ?_
                   rotate_left
                   ·intro w'
                    go_simp
                    with_reducible rfl
                   rotate_left
                   ·simp only [Act.put,sI,sZ,sS,i64_w,i32_w]
                    rfl
                   refine pure_ (i:=2) (N:=some 106) (v:=?_) (a':=?_) #[fF,tT,tT,fF,fF,fF,fF,fF,fF,fF,fF] rfl rfl (any_of HT_.out (by kernel_rfl)) (fun _ _ _ h=>h) (Or.inl ⟨by rfl,?_⟩) ?_ ?_
                   rotate_left
                   ·intro w'
                    go_simp
                    with_reducible rfl
                   rotate_left
                   ·simp only [Act.put,sI,sZ,sS,i64_w,i32_w]
                    rfl
                   refine pure_ (i:=3) (N:=some 107) (v:=?_) (a':=?_) #[fF,tT,tT,tT,fF,fF,fF,fF,fF,fF,fF] rfl rfl (any_of HT_.out (by kernel_rfl)) (fun _ _ _ h=>h) (Or.inl ⟨by rfl,?_⟩) ?_ ?_
                   rotate_left
                   ·intro w'
                    go_simp
                    with_reducible rfl
                   rotate_left
                   ·simp only [Act.put,sI,sZ,sS,i64_w,i32_w]
                    rfl
                   refine take_ (i:=0) (N:=some 104) (v:=?_) (a':=?_) #[tT,tT,tT,tT,fF,fF,fF,fF,fF,fF,fF] rfl rfl (take_ofW HT_.out HW_.out (by kernel_rfl)) (fun _ _ _ h=>h) (Or.inl ⟨by rfl,?_⟩) hHeld ?_ ?_
                   rotate_left
                   ·rintro w' ⟨s0,s1,s2⟩
                    go_simp
                    with_reducible rfl
                   rotate_left
                   ·simp only [Act.put,sI,sZ,sS,i64_w,i32_w]
                    rfl
                   refine take_ (i:=4) (N:=some 108) (v:=?_) (a':=?_) #[tT,tT,tT,tT,tT,fF,fF,fF,fF,fF,fF] rfl rfl (take_ofW HT_.out HW_.out (by kernel_rfl)) (fun _ _ _ h=>h) (Or.inl ⟨by rfl,?_⟩) hHeld ?_ ?_
                   rotate_left
                   ·rintro w' ⟨s0,s1,s2⟩
                    go_simp
                    with_reducible rfl
                   rotate_left
                   ·simp only [Act.put,sI,sZ,sS,i64_w,i32_w]
                    rfl
                   refine one_ (i:=5) (N:=some 109) #[tT,tT,tT,tT,tT,tT,fF,fF,fF,fF,fF] rfl rfl (one_of HT_.out (by kernel_rfl)) (by decide) (fun K hK=>?_)
                   refine goes_ Try.func6 (by kernel_rfl) rfl #[.agg #[.string t459,.string t460],.int .i64 (rd t462 x19_4)] (by rfl) rfl rfl (by (try simp only [sM,sC,sN]);first|done|rfl|(simp only [List.length_drop,List.length_take];rfl)) ?_
                   with_reducible refine (impl_RhoOf.calls k4 t459 t460 (rd t462 x19_4) t483 t484 _ A63.out).mono ?_
                   rintro e w76 ⟨rfl,hb⟩
                   have HS2_:=(hb.cell (World.block_lt_of_cell? _ _ (hHeld.2.2))).trans (hHeld.2.2)
                   refine ⟨_,rfl,?_⟩
                   replace HO_10:=aM (Kd.R_below HO_10.out hb)
                   replace HO_14:=aM (Kd.R_below HO_14.out hb)
                   replace BK454:=aM (blk_below (g:=gb454) (o:=.cells #[.string t451,.string t452] 25 (0,0)) BK454.out hb)
                   replace BK461:=aM (blk_below (g:=gb461) (o:=.cells #[.string t459,.string t460] 25 (0,0)) BK461.out hb)
                   replace BK477:=aM (blk_below (g:=gb477) (o:=.cells #[.string t474,.string t475] 25 (0,0)) BK477.out hb)
                   replace BK481:=aM (blk_below (g:=gb481) (o:=.cells #[.string t478,.string t479] 25 (0,0)) BK481.out hb)
                   replace HB:=aM (below_step HB.out hb)
                   (try clear hb)
                   refine hK.out _ _ ⟨(blk_cell BK461.out 0).trans rfl,(blk_cell BK461.out 1).trans rfl,HS2_⟩ (fun hHeld=>?_)
                   clear hK K
                   refine norm_ (a':=?_) ?_ ?_
                   rotate_left
                   ·show Act.put _ (some 109) _ = _
                    simp only [Act.put,sI,sZ,sS,i64_w,i32_w]
                    rfl
                   refine pure_ (i:=6) (N:=some 103) (v:=?_) (a':=?_) #[tT,tT,tT,tT,tT,tT,tT,fF,fF,fF,fF] rfl rfl (any_of HT_.out (by kernel_rfl)) (fun _ _ _ h=>h) (Or.inl ⟨by rfl,?_⟩) ?_ ?_
                   rotate_left
                   ·intro w'
                    go_simp
                    with_reducible rfl
                   rotate_left
                   ·simp only [Act.put,sI,sZ,sS,i64_w,i32_w]
                    rfl
                   refine pure_ (i:=7) (N:=some 110) (v:=?_) (a':=?_) #[tT,tT,tT,tT,tT,tT,tT,tT,fF,fF,fF] rfl rfl (any_of HT_.out (by kernel_rfl)) (fun _ _ _ h=>h) (Or.inl ⟨by rfl,?_⟩) ?_ ?_
                   rotate_left
                   ·intro w'
                    go_simp
                    with_reducible rfl
                   rotate_left
                   ·simp only [Act.put,sI,sZ,sS,i64_w,i32_w]
                    rfl
                   refine pure_ (i:=8) (N:=some 111) (v:=?_) (a':=?_) #[tT,tT,tT,tT,tT,tT,tT,tT,tT,fF,fF] rfl rfl (any_of HT_.out (by kernel_rfl)) (fun _ _ _ h=>h) (Or.inl ⟨by rfl,?_⟩) ?_ ?_
                   rotate_left
                   ·intro w'
                    go_simp
                    with_reducible rfl
                   rotate_left
                   ·simp only [Act.put,sI,sZ,sS,i64_w,i32_w]
                    rfl
                   refine pure_ (i:=9) (N:=some 20) (v:=?_) (a':=?_) #[tT,tT,tT,tT,tT,tT,tT,tT,tT,tT,fF] rfl rfl (any_of HT_.out (by kernel_rfl)) (fun _ _ _ h=>h) (Or.inl ⟨by rfl,?_⟩) ?_ ?_
                   rotate_left
                   ·intro w'
                    go_simp
                    with_reducible rfl
                   rotate_left
                   ·simp only [Act.put,sI,sZ,sS,i64_w,i32_w]
                    rfl
                   refine pure_ (i:=10) (N:=some 21) (v:=?_) (a':=?_) #[tT,tT,tT,tT,tT,tT,tT,tT,tT,tT,tT] rfl rfl (any_of HT_.out (by kernel_rfl)) (fun _ _ _ h=>h) (Or.inl ⟨by rfl,?_⟩) ?_ ?_
                   rotate_left
                   ·intro w'
                    go_simp
                    with_reducible rfl
                   rotate_left
                   ·simp only [Act.put,sI,sZ,sS,i64_w,i32_w]
                    rfl
                   refine done_ (done_of HT_.out (by kernel_rfl)) ?_
                   try go_wp2
                   go_ret
                   exact ⟨by first|rfl|(simp [errW_none,errW_some] <;> rfl)|(simp [*,errW_none,errW_some] <;> rfl),HB.out⟩
                 ·rw [if_neg c62] at H
                  exact absurd H (by simp)
                ·rw [if_neg c61] at H
                 exact absurd H (by simp)
               ·rw [if_neg c60] at H
                have c60b0:decide ((wrap64 (x19_4 + 1)) < (t462.length:Int)) = false:=decide_eq_false c60
                clear c60
                by_cases c77:(t462.length:Int) = 0
                ·rw [if_pos c77] at H
                 have c77b0:((t462.length:Int) == 0) = true:=beq_iff_eq.mpr c77
                 have c77b1:((t462.length:Int) != 0) = false:=bne_eq_false_iff_eq.mpr c77
                 clear c77
                 obtain rfl:=Option.some.inj H
                 obtain ⟨Ao78,co78,eo78⟩:=Kd.R_slice HO_10.out
                 subst eo78
                 go_wp2
                 go_ret
                 exact ⟨by first|rfl|(simp [errW_none,errW_some] <;> rfl)|(simp [*,errW_none,errW_some] <;> rfl),HB.out⟩
                ·rw [if_neg c77] at H
                 have c77b0:((t462.length:Int) == 0) = false:=beq_eq_false_iff_ne.mpr c77
                 have c77b1:((t462.length:Int) != 0) = true:=bne_iff_ne.mpr c77
                 have c77b2:¬ (t462 = []):=fun h_=>c77 (by rw [h_];rfl)
                 by_cases c79:0 < (t462.length:Int)
                 ·rw [if_pos c79] at H
                  have c79b0:decide (0 < (t462.length:Int)) = true:=decide_eq_true c79
                  have c79b1:decide (0 < t462.length) = true:=decide_eq_true (by omega)
                  clear c79
                  by_cases c80:(rd t462 0) = 1
                  ·rw [if_pos c80] at H
                   have c80b0:((rd t462 0) == 1) = true:=beq_iff_eq.mpr c80
                   have c80b1:((rd t462 0) != 1) = false:=bne_eq_false_iff_eq.mpr c80
                   clear c80
                   have H':=aM H
                   clear H
                   obtain ⟨Ao81,co81,eo81⟩:=Kd.R_slice HO_10.out
                   subst eo81
                   have p486:0 ≤ (0:Int):=(by omega)
                   have q486:0 < (t462.length:Int):=of_decide_eq_true (by first|(with_reducible assumption)|assumption)
                   obtain ⟨ad486,e486,hx486_0⟩:=Kd.at_int (Kd.R_reads' HO_10.out).2.2 0 p486 q486
                   cases e486
                   have qi486:(0 < t462.length) = True:=eq_true (by omega)
                   (try rw [show ((0:Int)).toNat = 0 from rfl] at hx486_0)
                   (try rw [Addr.add_zero'] at hx486_0)
                   replace p486:=eq_true p486
                   replace q486:=eq_true q486
                   go_wp2
                   go_meet
                   case rel=>exact ⟨_,H',⟨by have:=HJ6.out;have:=HJ18.out;have:=HJ34.out;have:=HK4.out;first|omega|exact Nat.le_refl _⟩,⟨by (with_reducible repeat (first|apply rA|apply rN|apply rD));exact Kd.R_mono HO_14.out (fun _ hk=>trivial)⟩,⟨BK454.out⟩,⟨BK461.out⟩,⟨BK477.out⟩,⟨BK481.out⟩,⟨HB.out⟩⟩
                  ·rw [if_neg c80] at H
                   have c80b0:((rd t462 0) == 1) = false:=beq_eq_false_iff_ne.mpr c80
                   have c80b1:((rd t462 0) != 1) = true:=bne_iff_ne.mpr c80
                   obtain rfl:=Option.some.inj H
                   obtain ⟨Ao82,co82,eo82⟩:=Kd.R_slice HO_10.out
                   subst eo82
                   have p486:0 ≤ (0:Int):=(by omega)
                   have q486:0 < (t462.length:Int):=of_decide_eq_true (by first|(with_reducible assumption)|assumption)
                   obtain ⟨ad486,e486,hx486_0⟩:=Kd.at_int (Kd.R_reads' HO_10.out).2.2 0 p486 q486
                   cases e486
                   have qi486:(0 < t462.length) = True:=eq_true (by omega)
                   (try rw [show ((0:Int)).toNat = 0 from rfl] at hx486_0)
                   (try rw [Addr.add_zero'] at hx486_0)
                   replace p486:=eq_true p486
                   replace q486:=eq_true q486
                   go_wp2
                   go_ret
                   exact ⟨by first|rfl|(simp [errW_none,errW_some] <;> rfl)|(simp [*,errW_none,errW_some] <;> rfl),HB.out⟩
                 ·rw [if_neg c79] at H
                  exact absurd H (by simp)
            ·rw [if_neg c59] at H
             have c59b0:(t465 == 0) = false:=beq_eq_false_iff_ne.mpr c59
             have c59b1:(t465 != 0) = true:=bne_iff_ne.mpr c59
             (first|rw [c59b0]|(simp only [i64_w,i32_w];rw [c59b0])|skip)
             have H':=aM H
             clear H
             go_wp2
             go_meet
             case rel=>exact ⟨_,H',⟨by have:=HJ6.out;have:=HJ18.out;have:=HJ34.out;first|omega|exact Nat.le_refl _⟩,⟨by (with_reducible repeat (first|apply rA|apply rN|apply rD));exact Kd.R_mono HO_14.out (fun _ hk=>trivial)⟩,⟨BK454.out⟩,⟨BK461.out⟩,⟨BK477.out⟩,⟨BK481.out⟩,⟨HB.out⟩⟩
           case rest =>
            clear HC58
            try clear p2
            try clear p4
            try clear q4
            try clear hx4
            try clear qi4
            try clear c5
            try clear c6
            try clear p6
            try clear c7
            try clear c8
            try clear p48
            try clear q48
            try clear hx48
            try clear qi48
            try clear c59
            try clear c59b0
            try clear c59b1
            try clear c60
            try clear c60b0
            try clear c61
            try clear c62
            try clear c62b0
            try clear c64
            try clear c64b0
            try clear c64b1
            try clear p64
            try clear c66
            try clear c66b0
            try clear c67
            try clear c67b0
            try clear c67b1
            try clear c77
            try clear c77b0
            try clear c77b1
            try clear c77b2
            try clear c79
            try clear c79b0
            try clear c79b1
            try clear c80
            try clear c80b0
            try clear c80b1
            try clear hx482_0
            try clear hx485_0
            try clear hx486_0
            try clear p482
            try clear p485
            try clear p486
            try clear q482
            try clear q485
            try clear q486
            obtain ⟨kq,HA,HJ57,HO_14,BK454,BK461,BK477,BK481,HB⟩:=hcut
            cases kq with
            | zero=>exact absurd HA.out (by simp [laws_FnAddresses.j4])
            | succ kj57 =>
             have H:=HA.out
             clear HA
             simp only [laws_FnAddresses.j4] at H
             have HC83:=aM H
             clear H
             go_upto_region 27 with (fail)
             go_cut [138] (fun v138 wc=>∃ (kq:Nat) (x138_82:Bool),v138 = .bool x138_82 ∧ Aside0 (laws_FnAddresses.j5 kq t471 t476 x138_82 t474 t475 = some r) ∧ Aside0 (kq ≤ kj57) ∧ Aside0 (Kd.R (Kd.int .i64) 2 wc w.heap.size (fun _=>True) (.slice Ao37 t471.length co37) t471) ∧ Aside0 (wc.heap[gb454]? = some (.cells #[.string t451,.string t452] 25 (0,0))) ∧ Aside0 (wc.heap[gb461]? = some (.cells #[.string t459,.string t460] 25 (0,0))) ∧ Aside0 (wc.heap[gb477]? = some (.cells #[.string t474,.string t475] 25 (0,0))) ∧ Aside0 (wc.heap[gb481]? = some (.cells #[.string t478,.string t479] 25 (0,0))) ∧ Aside0 (Below w.heap.size w wc))
             case first =>
              have H:=HC83.out
              clear HC83
              by_cases c84:t456 = 0
              ·rw [if_pos c84] at H
               have c84b0:(t456 == 0) = true:=beq_iff_eq.mpr c84
               have c84b1:(t456 != 0) = false:=bne_eq_false_iff_eq.mpr c84
               clear c84
               (first|rw [c84b0]|(simp only [i64_w,i32_w];rw [c84b0])|skip)
               have H':=aM H
               clear H
               go_wp2
               go_meet
               case rel=>exact ⟨_,(decide (t455 ≤ t453)),(by first|rfl|(simp;done)|(simp [*];done)),H',⟨by have:=HJ6.out;have:=HJ18.out;have:=HJ34.out;have:=HJ57.out;first|omega|exact Nat.le_refl _⟩,⟨HO_14.out⟩,⟨BK454.out⟩,⟨BK461.out⟩,⟨BK477.out⟩,⟨BK481.out⟩,⟨HB.out⟩⟩
              ·rw [if_neg c84] at H
               have c84b0:(t456 == 0) = false:=beq_eq_false_iff_ne.mpr c84
               have c84b1:(t456 != 0) = true:=bne_iff_ne.mpr c84
               (first|rw [c84b0]|(simp only [i64_w,i32_w];rw [c84b0])|skip)
               have H':=aM H
               clear H
               go_wp2
               go_meet
               case rel=>exact ⟨_,(false),(by first|rfl|(simp;done)|(simp [*];done)),H',⟨by have:=HJ6.out;have:=HJ18.out;have:=HJ34.out;have:=HJ57.out;first|omega|exact Nat.le_refl _⟩,⟨HO_14.out⟩,⟨BK454.out⟩,⟨BK461.out⟩,⟨BK477.out⟩,⟨BK481.out⟩,⟨HB.out⟩⟩
             case rest =>
              clear HC83
              try clear p2
              try clear p4
              try clear q4
              try clear hx4
              try clear qi4
              try clear c5
              try clear c6
              try clear p6
              try clear c7
              try clear c8
              try clear p48
              try clear q48
              try clear hx48
              try clear qi48
              try clear c59
              try clear c59b0
              try clear c59b1
              try clear c60
              try clear c60b0
              try clear c61
              try clear c62
              try clear c62b0
              try clear c64
              try clear c64b0
              try clear c64b1
              try clear p64
              try clear c66
              try clear c66b0
              try clear c67
              try clear c67b0
              try clear c67b1
              try clear c77
              try clear c77b0
              try clear c77b1
              try clear c77b2
              try clear c79
              try clear c79b0
              try clear c79b1
              try clear c80
              try clear c80b0
              try clear c80b1
              try clear c84
              try clear c84b0
              try clear c84b1
              try clear hx482_0
              try clear hx485_0
              try clear hx486_0
              try clear p2
              try clear p4
              try clear p48
              try clear p482
              try clear p485
              try clear p486
              try clear p6
              try clear p64
              try clear q4
              try clear q48
              try clear q482
              try clear q485
              try clear q486
              obtain ⟨kq,x138_82,rfl,HA,HJ82,HO_14,BK454,BK461,BK477,BK481,HB⟩:=hcut
              cases kq with
              | zero=>exact absurd HA.out (by simp [laws_FnAddresses.j5])
              | succ kj82 =>
               have H:=HA.out
               clear HA
               simp only [laws_FnAddresses.j5] at H
               by_cases c85:x138_82 = true
               ·subst c85
                have H1:(some false) = some r:=by rw [if_pos rfl] at H;exact H
                clear H
                have H:=H1
                clear H1
                obtain rfl:=Option.some.inj H
                go_wp2
                go_ret
                exact ⟨by first|rfl|(simp [errW_none,errW_some] <;> rfl)|(simp [*,errW_none,errW_some] <;> rfl),HB.out⟩
               ·replace c85:=Bool.eq_false_iff.mpr c85
                subst c85
                have H1:(if t476 = 0 then ((impl_IsStarPeriodic.f kj82 t474 t475).bind fun bt487=>((impl_InternalAddress.f kj82 t474 t475).bind fun bt489=>(if bt487.2 = 0 then (if bt487.1 = true then (if bt489.2 = 0 then ((laws_likeInts.f kj82 bt489.1 t471).bind fun t493=>(some t493)) else (some false)) else (some false)) else (some false)))) else (some (t474.toList == ([]:List UInt8) && (t475.toList == ([]:List UInt8))))) = some r:=by rw [if_neg (show ¬ (false = true) by decide)] at H;exact H
                clear H
                have H:=H1
                clear H1
                by_cases c86:t476 = 0
                ·rw [if_pos c86] at H
                 have c86b0:(t476 == 0) = true:=beq_iff_eq.mpr c86
                 have c86b1:(t476 != 0) = false:=bne_eq_false_iff_eq.mpr c86
                 clear c86
                 replace H:=Option.bind_eq_some_iff.mp H
                 obtain ⟨⟨t487,t488⟩,A870,H⟩:=H
                 replace H:((impl_InternalAddress.f kj82 t474 t475).bind fun bt489=>(if t488 = 0 then (if t487 = true then (if bt489.2 = 0 then ((laws_likeInts.f kj82 bt489.1 t471).bind fun t493=>(some t493)) else (some false)) else (some false)) else (some false))) = some r:=H
                 have A87:=aM A870
                 clear A870
                 replace H:=Option.bind_eq_some_iff.mp H
                 obtain ⟨⟨t489,t492⟩,A880,H⟩:=H
                 replace H:(if t488 = 0 then (if t487 = true then (if t492 = 0 then ((laws_likeInts.f kj82 t489 t471).bind fun t493=>(some t493)) else (some false)) else (some false)) else (some false)) = some r:=H
                 have A88:=aM A880
                 clear A880
                 by_cases c89:t488 = 0
                 ·rw [if_pos c89] at H
                  have c89b0:(t488 == 0) = true:=beq_iff_eq.mpr c89
                  have c89b1:(t488 != 0) = false:=bne_eq_false_iff_eq.mpr c89
                  clear c89
                  by_cases c90:t487 = true
                  ·subst c90
                   have H1:(if t492 = 0 then ((laws_likeInts.f kj82 t489 t471).bind fun t493=>(some t493)) else (some false)) = some r:=by rw [if_pos rfl] at H;exact H
                   clear H
                   have H:=H1
                   clear H1
                   by_cases c91:t492 = 0
                   ·rw [if_pos c91] at H
                    have c91b0:(t492 == 0) = true:=beq_iff_eq.mpr c91
                    have c91b1:(t492 != 0) = false:=bne_eq_false_iff_eq.mpr c91
                    clear c91
                    replace H:=Option.bind_eq_some_iff.mp H
                    obtain ⟨t493,A920,H⟩:=H
                    replace H:(some t493) = some r:=H
                    have A92:=aM A920
                    clear A920
                    obtain rfl:=Option.some.inj H
                    have hnb93:=NB477_454.out
                    have hnc93:=NB454_477.out
                    have hnb94:=NB477_461.out
                    have hnc94:=NB461_477.out
                    have hnb95:=NB477_481.out
                    have hnc95:=NB481_477.out
                    have hcz96_0:wc.cell? ⟨gb477,0,none⟩ = some (.string t474):=(blk_cell BK477.out 0).trans rfl
                    have hcz96_1:wc.cell? ⟨gb477,1,none⟩ = some (.string t475):=(blk_cell BK477.out 1).trans rfl
                    have hfz96_0:=blk_frozen BK477.out 0
                    have hfz96_1:=blk_frozen BK477.out 1
                    go_wp2_with (first|((with_reducible refine gate_callee (f:=15) rfl ?_);refine goesL_ (some 146) rfl rfl Try.func15 (by kernel_rfl) rfl #[.agg #[.string t474,.string t475]] rfl (by (try simp only [sM,sC,sN]);first|done|rfl|(simp only [List.length_drop,List.length_take];rfl)) ?_;(with_reducible refine (impl_IsStarPeriodic.calls kj82 t474 t475 true t488 _ A87.out).mono ?_);rintro e w97 ⟨rfl,hb⟩;refine ⟨_,rfl,?_⟩;replace HO_14:=aM (Kd.R_below HO_14.out hb);replace BK454:=aM (blk_below (g:=gb454) (o:=.cells #[.string t451,.string t452] 25 (0,0)) BK454.out hb);replace BK461:=aM (blk_below (g:=gb461) (o:=.cells #[.string t459,.string t460] 25 (0,0)) BK461.out hb);replace BK477:=aM (blk_below (g:=gb477) (o:=.cells #[.string t474,.string t475] 25 (0,0)) BK477.out hb);replace BK481:=aM (blk_below (g:=gb481) (o:=.cells #[.string t478,.string t479] 25 (0,0)) BK481.out hb);replace HB:=aM (below_step HB.out hb);(try clear hb);(try clear hb2);(try clear hk);(try clear hi);have hcz98_0:w97.cell? ⟨gb477,0,none⟩ = some (.string t474):=(blk_cell BK477.out 0).trans rfl;have hcz98_1:w97.cell? ⟨gb477,1,none⟩ = some (.string t475):=(blk_cell BK477.out 1).trans rfl;have hfz98_0:=blk_frozen BK477.out 0;have hfz98_1:=blk_frozen BK477.out 1)|((with_reducible refine gate_callee (f:=9) rfl ?_);refine goesL_ (some 151) rfl rfl Try.func9 (by kernel_rfl) rfl #[.agg #[.string t474,.string t475]] rfl (by (try simp only [sM,sC,sN]);first|done|rfl|(simp only [List.length_drop,List.length_take];rfl)) ?_;(with_reducible refine (impl_InternalAddress.calls kj82 t474 t475 t489 t492 _ A88.out).mono ?_);rintro e w99 ⟨v490,rfl,ho0,hb⟩;refine ⟨_,rfl,?_⟩;have n0_:=aM (Kd.R_elder' HO_14.out (Kd.R_base ho0) hb);have n1_:=aM (Kd.R_lower (Kd.R_new' ho0 (Kd.R_lt HO_14.out)) (below_size HB.out));have n2_:=aM (blk_below (g:=gb454) (o:=.cells #[.string t451,.string t452] 25 (0,0)) BK454.out hb);have n3_:=aM (blk_below (g:=gb461) (o:=.cells #[.string t459,.string t460] 25 (0,0)) BK461.out hb);have n4_:=aM (blk_below (g:=gb477) (o:=.cells #[.string t474,.string t475] 25 (0,0)) BK477.out hb);have n5_:=aM (blk_below (g:=gb481) (o:=.cells #[.string t478,.string t479] 25 (0,0)) BK481.out hb);have n6_:=aM (below_step HB.out hb);clear HO_14;clear BK454;clear BK461;clear BK477;clear BK481;clear HB;have HO_14:=n0_;have HO491:=n1_;have BK454:=n2_;have BK461:=n3_;have BK477:=n4_;have BK481:=n5_;have HB:=n6_;clear n0_ n1_ n2_ n3_ n4_ n5_ n6_;(try clear hb);(try clear hb2);(try clear hk);(try clear hi);(try clear ho0);obtain ⟨Ao100,co100,eo100⟩:=Kd.R_slice HO491.out;subst eo100)|(go_at_call 11;(with_reducible refine (laws_likeInts.calls kj82 _ _ t489 _ _ t471 t493 _ ?side1 ?side2 ?side3 ?side4 A92.out).mono ?_);(case side1=>repeat (first|exact (Kd.R_reads' HO491.out).2.2|(with_reducible refine cA ?_ _)|(with_reducible refine cN ?_ _)|(with_reducible refine cD ?_)));(case side2=>exact (Kd.R_reads' HO491.out).2.1);(case side3=>repeat (first|exact (Kd.R_reads' HO_14.out).2.2|(with_reducible refine cA ?_ _)|(with_reducible refine cN ?_ _)|(with_reducible refine cD ?_)));(case side4=>exact (Kd.R_reads' HO_14.out).2.1);rintro e w' ⟨rfl,⟨nd,rfl⟩⟩))
                    go_ret
                    exact ⟨by first|rfl|(simp [errW_none,errW_some] <;> rfl)|(simp [*,errW_none,errW_some] <;> rfl),by repeat (first|(with_reducible first|exact HB.out|apply zA|apply zN|apply zD|refine zS ?_ GE454.out|refine zS ?_ GE461.out|refine zS ?_ GE477.out|refine zS ?_ GE481.out)|exact HB.out)⟩
                   ·rw [if_neg c91] at H
                    have c91b0:(t492 == 0) = false:=beq_eq_false_iff_ne.mpr c91
                    have c91b1:(t492 != 0) = true:=bne_iff_ne.mpr c91
                    obtain rfl:=Option.some.inj H
                    have hnb101:=NB477_454.out
                    have hnc101:=NB454_477.out
                    have hnb102:=NB477_461.out
                    have hnc102:=NB461_477.out
                    have hnb103:=NB477_481.out
                    have hnc103:=NB481_477.out
                    have hcz104_0:wc.cell? ⟨gb477,0,none⟩ = some (.string t474):=(blk_cell BK477.out 0).trans rfl
                    have hcz104_1:wc.cell? ⟨gb477,1,none⟩ = some (.string t475):=(blk_cell BK477.out 1).trans rfl
                    have hfz104_0:=blk_frozen BK477.out 0
                    have hfz104_1:=blk_frozen BK477.out 1
                    go_wp2_with (first|((with_reducible refine gate_callee (f:=15) rfl ?_);refine goesL_ (some 146) rfl rfl Try.func15 (by kernel_rfl) rfl #[.agg #[.string t474,.string t475]] rfl (by (try simp only [sM,sC,sN]);first|done|rfl|(simp only [List.length_drop,List.length_take];rfl)) ?_;(with_reducible refine (impl_IsStarPeriodic.calls kj82 t474 t475 true t488 _ A87.out).mono ?_);rintro e w105 ⟨rfl,hb⟩;refine ⟨_,rfl,?_⟩;replace HO_14:=aM (Kd.R_below HO_14.out hb);replace BK454:=aM (blk_below (g:=gb454) (o:=.cells #[.string t451,.string t452] 25 (0,0)) BK454.out hb);replace BK461:=aM (blk_below (g:=gb461) (o:=.cells #[.string t459,.string t460] 25 (0,0)) BK461.out hb);replace BK477:=aM (blk_below (g:=gb477) (o:=.cells #[.string t474,.string t475] 25 (0,0)) BK477.out hb);replace BK481:=aM (blk_below (g:=gb481) (o:=.cells #[.string t478,.string t479] 25 (0,0)) BK481.out hb);replace HB:=aM (below_step HB.out hb);(try clear hb);(try clear hb2);(try clear hk);(try clear hi);have hcz106_0:w105.cell? ⟨gb477,0,none⟩ = some (.string t474):=(blk_cell BK477.out 0).trans rfl;have hcz106_1:w105.cell? ⟨gb477,1,none⟩ = some (.string t475):=(blk_cell BK477.out 1).trans rfl;have hfz106_0:=blk_frozen BK477.out 0;have hfz106_1:=blk_frozen BK477.out 1)|((with_reducible refine gate_callee (f:=9) rfl ?_);refine goesL_ (some 151) rfl rfl Try.func9 (by kernel_rfl) rfl #[.agg #[.string t474,.string t475]] rfl (by (try simp only [sM,sC,sN]);first|done|rfl|(simp only [List.length_drop,List.length_take];rfl)) ?_;(with_reducible refine (impl_InternalAddress.calls kj82 t474 t475 t489 t492 _ A88.out).mono ?_);rintro e w107 ⟨v490,rfl,ho0,hb⟩;refine ⟨_,rfl,?_⟩;have n0_:=aM (Kd.R_elder' HO_14.out (Kd.R_base ho0) hb);have n1_:=aM (Kd.R_lower (Kd.R_new' ho0 (Kd.R_lt HO_14.out)) (below_size HB.out));have n2_:=aM (blk_below (g:=gb454) (o:=.cells #[.string t451,.string t452] 25 (0,0)) BK454.out hb);have n3_:=aM (blk_below (g:=gb461) (o:=.cells #[.string t459,.string t460] 25 (0,0)) BK461.out hb);have n4_:=aM (blk_below (g:=gb477) (o:=.cells #[.string t474,.string t475] 25 (0,0)) BK477.out hb);have n5_:=aM (blk_below (g:=gb481) (o:=.cells #[.string t478,.string t479] 25 (0,0)) BK481.out hb);have n6_:=aM (below_step HB.out hb);clear HO_14;clear BK454;clear BK461;clear BK477;clear BK481;clear HB;have HO_14:=n0_;have HO491:=n1_;have BK454:=n2_;have BK461:=n3_;have BK477:=n4_;have BK481:=n5_;have HB:=n6_;clear n0_ n1_ n2_ n3_ n4_ n5_ n6_;(try clear hb);(try clear hb2);(try clear hk);(try clear hi);(try clear ho0)))
                    go_ret
                    exact ⟨by first|rfl|(simp [errW_none,errW_some] <;> rfl)|(simp [*,errW_none,errW_some] <;> rfl),HB.out⟩
                  ·replace c90:=Bool.eq_false_iff.mpr c90
                   subst c90
                   have H1:(some false) = some r:=by rw [if_neg (show ¬ (false = true) by decide)] at H;exact H
                   clear H
                   have H:=H1
                   clear H1
                   obtain rfl:=Option.some.inj H
                   have hnb108:=NB477_454.out
                   have hnc108:=NB454_477.out
                   have hnb109:=NB477_461.out
                   have hnc109:=NB461_477.out
                   have hnb110:=NB477_481.out
                   have hnc110:=NB481_477.out
                   have hcz111_0:wc.cell? ⟨gb477,0,none⟩ = some (.string t474):=(blk_cell BK477.out 0).trans rfl
                   have hcz111_1:wc.cell? ⟨gb477,1,none⟩ = some (.string t475):=(blk_cell BK477.out 1).trans rfl
                   have hfz111_0:=blk_frozen BK477.out 0
                   have hfz111_1:=blk_frozen BK477.out 1
                   go_wp2_with (first|((with_reducible refine gate_callee (f:=15) rfl ?_);refine goesL_ (some 146) rfl rfl Try.func15 (by kernel_rfl) rfl #[.agg #[.string t474,.string t475]] rfl (by (try simp only [sM,sC,sN]);first|done|rfl|(simp only [List.length_drop,List.length_take];rfl)) ?_;(with_reducible refine (impl_IsStarPeriodic.calls kj82 t474 t475 false t488 _ A87.out).mono ?_);rintro e w112 ⟨rfl,hb⟩;refine ⟨_,rfl,?_⟩;replace HO_14:=aM (Kd.R_below HO_14.out hb);replace BK454:=aM (blk_below (g:=gb454) (o:=.cells #[.string t451,.string t452] 25 (0,0)) BK454.out hb);replace BK461:=aM (blk_below (g:=gb461) (o:=.cells #[.string t459,.string t460] 25 (0,0)) BK461.out hb);replace BK477:=aM (blk_below (g:=gb477) (o:=.cells #[.string t474,.string t475] 25 (0,0)) BK477.out hb);replace BK481:=aM (blk_below (g:=gb481) (o:=.cells #[.string t478,.string t479] 25 (0,0)) BK481.out hb);replace HB:=aM (below_step HB.out hb);(try clear hb);(try clear hb2);(try clear hk);(try clear hi);have hcz113_0:w112.cell? ⟨gb477,0,none⟩ = some (.string t474):=(blk_cell BK477.out 0).trans rfl;have hcz113_1:w112.cell? ⟨gb477,1,none⟩ = some (.string t475):=(blk_cell BK477.out 1).trans rfl;have hfz113_0:=blk_frozen BK477.out 0;have hfz113_1:=blk_frozen BK477.out 1)|((with_reducible refine gate_callee (f:=9) rfl ?_);refine goesL_ (some 151) rfl rfl Try.func9 (by kernel_rfl) rfl #[.agg #[.string t474,.string t475]] rfl (by (try simp only [sM,sC,sN]);first|done|rfl|(simp only [List.length_drop,List.length_take];rfl)) ?_;(with_reducible refine (impl_InternalAddress.calls kj82 t474 t475 t489 t492 _ A88.out).mono ?_);rintro e w114 ⟨v490,rfl,ho0,hb⟩;refine ⟨_,rfl,?_⟩;have n0_:=aM (Kd.R_elder' HO_14.out (Kd.R_base ho0) hb);have n1_:=aM (Kd.R_lower (Kd.R_new' ho0 (Kd.R_lt HO_14.out)) (below_size HB.out));have n2_:=aM (blk_below (g:=gb454) (o:=.cells #[.string t451,.string t452] 25 (0,0)) BK454.out hb);have n3_:=aM (blk_below (g:=gb461) (o:=.cells #[.string t459,.string t460] 25 (0,0)) BK461.out hb);have n4_:=aM (blk_below (g:=gb477) (o:=.cells #[.string t474,.string t475] 25 (0,0)) BK477.out hb);have n5_:=aM (blk_below (g:=gb481) (o:=.cells #[.string t478,.string t479] 25 (0,0)) BK481.out hb);have n6_:=aM (below_step HB.out hb);clear HO_14;clear BK454;clear BK461;clear BK477;clear BK481;clear HB;have HO_14:=n0_;have HO491:=n1_;have BK454:=n2_;have BK461:=n3_;have BK477:=n4_;have BK481:=n5_;have HB:=n6_;clear n0_ n1_ n2_ n3_ n4_ n5_ n6_;(try clear hb);(try clear hb2);(try clear hk);(try clear hi);(try clear ho0)))
                   go_ret
                   exact ⟨by first|rfl|(simp [errW_none,errW_some] <;> rfl)|(simp [*,errW_none,errW_some] <;> rfl),HB.out⟩
                 ·rw [if_neg c89] at H
                  have c89b0:(t488 == 0) = false:=beq_eq_false_iff_ne.mpr c89
                  have c89b1:(t488 != 0) = true:=bne_iff_ne.mpr c89
                  obtain rfl:=Option.some.inj H
                  have hnb115:=NB477_454.out
                  have hnc115:=NB454_477.out
                  have hnb116:=NB477_461.out
                  have hnc116:=NB461_477.out
                  have hnb117:=NB477_481.out
                  have hnc117:=NB481_477.out
                  have hcz118_0:wc.cell? ⟨gb477,0,none⟩ = some (.string t474):=(blk_cell BK477.out 0).trans rfl
                  have hcz118_1:wc.cell? ⟨gb477,1,none⟩ = some (.string t475):=(blk_cell BK477.out 1).trans rfl
                  have hfz118_0:=blk_frozen BK477.out 0
                  have hfz118_1:=blk_frozen BK477.out 1
                  go_wp2_with (first|((with_reducible refine gate_callee (f:=15) rfl ?_);refine goesL_ (some 146) rfl rfl Try.func15 (by kernel_rfl) rfl #[.agg #[.string t474,.string t475]] rfl (by (try simp only [sM,sC,sN]);first|done|rfl|(simp only [List.length_drop,List.length_take];rfl)) ?_;(with_reducible refine (impl_IsStarPeriodic.calls kj82 t474 t475 t487 t488 _ A87.out).mono ?_);rintro e w119 ⟨rfl,hb⟩;refine ⟨_,rfl,?_⟩;replace HO_14:=aM (Kd.R_below HO_14.out hb);replace BK454:=aM (blk_below (g:=gb454) (o:=.cells #[.string t451,.string t452] 25 (0,0)) BK454.out hb);replace BK461:=aM (blk_below (g:=gb461) (o:=.cells #[.string t459,.string t460] 25 (0,0)) BK461.out hb);replace BK477:=aM (blk_below (g:=gb477) (o:=.cells #[.string t474,.string t475] 25 (0,0)) BK477.out hb);replace BK481:=aM (blk_below (g:=gb481) (o:=.cells #[.string t478,.string t479] 25 (0,0)) BK481.out hb);replace HB:=aM (below_step HB.out hb);(try clear hb);(try clear hb2);(try clear hk);(try clear hi);have hcz120_0:w119.cell? ⟨gb477,0,none⟩ = some (.string t474):=(blk_cell BK477.out 0).trans rfl;have hcz120_1:w119.cell? ⟨gb477,1,none⟩ = some (.string t475):=(blk_cell BK477.out 1).trans rfl;have hfz120_0:=blk_frozen BK477.out 0;have hfz120_1:=blk_frozen BK477.out 1)|((with_reducible refine gate_callee (f:=9) rfl ?_);refine goesL_ (some 151) rfl rfl Try.func9 (by kernel_rfl) rfl #[.agg #[.string t474,.string t475]] rfl (by (try simp only [sM,sC,sN]);first|done|rfl|(simp only [List.length_drop,List.length_take];rfl)) ?_;(with_reducible refine (impl_InternalAddress.calls kj82 t474 t475 t489 t492 _ A88.out).mono ?_);rintro e w121 ⟨v490,rfl,ho0,hb⟩;refine ⟨_,rfl,?_⟩;have n0_:=aM (Kd.R_elder' HO_14.out (Kd.R_base ho0) hb);have n1_:=aM (Kd.R_lower (Kd.R_new' ho0 (Kd.R_lt HO_14.out)) (below_size HB.out));have n2_:=aM (blk_below (g:=gb454) (o:=.cells #[.string t451,.string t452] 25 (0,0)) BK454.out hb);have n3_:=aM (blk_below (g:=gb461) (o:=.cells #[.string t459,.string t460] 25 (0,0)) BK461.out hb);have n4_:=aM (blk_below (g:=gb477) (o:=.cells #[.string t474,.string t475] 25 (0,0)) BK477.out hb);have n5_:=aM (blk_below (g:=gb481) (o:=.cells #[.string t478,.string t479] 25 (0,0)) BK481.out hb);have n6_:=aM (below_step HB.out hb);clear HO_14;clear BK454;clear BK461;clear BK477;clear BK481;clear HB;have HO_14:=n0_;have HO491:=n1_;have BK454:=n2_;have BK461:=n3_;have BK477:=n4_;have BK481:=n5_;have HB:=n6_;clear n0_ n1_ n2_ n3_ n4_ n5_ n6_;(try clear hb);(try clear hb2);(try clear hk);(try clear hi);(try clear ho0)))
                  go_ret
                  exact ⟨by first|rfl|(simp [errW_none,errW_some] <;> rfl)|(simp [*,errW_none,errW_some] <;> rfl),HB.out⟩
                ·rw [if_neg c86] at H
                 have c86b0:(t476 == 0) = false:=beq_eq_false_iff_ne.mpr c86
                 have c86b1:(t476 != 0) = true:=bne_iff_ne.mpr c86
                 obtain rfl:=Option.some.inj H
                 have hnb122:=NB477_454.out
                 have hnc122:=NB454_477.out
                 have hnb123:=NB477_461.out
                 have hnc123:=NB461_477.out
                 have hnb124:=NB477_481.out
                 have hnc124:=NB481_477.out
                 have hcz125_0:wc.cell? ⟨gb477,0,none⟩ = some (.string t474):=(blk_cell BK477.out 0).trans rfl
                 have hcz125_1:wc.cell? ⟨gb477,1,none⟩ = some (.string t475):=(blk_cell BK477.out 1).trans rfl
                 have hfz125_0:=blk_frozen BK477.out 0
                 have hfz125_1:=blk_frozen BK477.out 1
                 go_wp2
                 go_ret
                 exact ⟨by first|rfl|(simp [errW_none,errW_some] <;> rfl)|(simp [*,errW_none,errW_some] <;> rfl),HB.out⟩
def laws_FnAddresses.Pure:Prop:=∀ (l0:List Int),l0.length ≤ maxLen → l0.length * 1 ≤ 140737488351232 → (∀ x ∈ l0,(Lit.int .u8 x).wf = true) → ∃ k,laws_FnAddresses.f k l0 = some true
theorem laws_FnAddresses.walk (P:laws_FnAddresses.Pure) (a0:Option Addr) (len0 cap0:Nat) (z0:List Int) (w:World) (w0:(a0 = none ∧ len0 = 0 ∧ cap0 = 0 ∧ z0 = []) ∨ ∃ x,a0 = some x ∧ len0 ≤ cap0 ∧ cap0 ≤ maxLen ∧ z0.length = cap0 ∧ (∀ i,i < z0.length → w.cell? (x.add i) = some (.int .u8 (z0.getD i 0))) ∧ ∀ n ∈ z0,(Lit.int .u8 n).wf = true) (y0:len0 * 1 ≤ 140737488351232) :
  Calls Try.prog 3 #[.slice a0 len0 cap0] w fun e w'=>e = .returned (.bool true) ∧ Below w.heap.size w w':=by
 obtain ⟨l0,rfl,hr0,hm0,hw0,hc0⟩:=ReadsInt.ofRowC w0
 obtain ⟨k,h⟩:=P l0 hm0 y0 hw0
 refine (laws_FnAddresses.calls k _ _ l0 true w (Kd.C_of_reads (d:=(0:Int)) (h1:=fun _=>rfl) hr0) hc0 h).mono ?_
 rintro e w' ⟨rfl,hd⟩
 exact ⟨rfl,hd⟩
end Go.Proofs.Ytccinmopfchjlaa.Q
end
section
namespace Go.Proofs.Ytccinmopfchjlaa.Q
open Go.RowKit Go.Proofs.YtccinmopfchjlaaW.PrintWords Go.Proofs.YtccinmopfchjlaaW.PrintLast Go.Proofs.YtccinmopfchjlaaW.Ext
set_option linter.unusedVariables false
set_option linter.unusedSimpArgs false
theorem wrS {x : Int} (h0 : -9223372036854775808 ≤ x) (h1 : x ≤ 9223372036854775807) : wrap64 x = x := by unfold wrap64; omega
def lettersB (s : ByteArray) : Bool := (bytesOf s).all isLetterN
theorem get_bytesOf (s : ByteArray) (i : Nat) (hi : i < (bytesOf s).length) : (bytesOf s)[i] = bt s (i : Int) := by
  rw [← rd_bytesOf]
  simp [rd, hi]
theorem ev_spec_letters (s : ByteArray) (hs : s.size ≤ 1048576) : Ev (fun k => spec_l01Letters.f k s) (lettersB s) := by
  unfold spec_l01Letters.f lettersB
  have key : ∀ d i : Nat, i + d = s.size → Ev (fun k => spec_l01Letters.l0 k s (i : Int)) (((bytesOf s).drop i).all isLetterN) := by
    intro d
    induction d with
    | zero =>
      intro i h
      refine Ev.step (f := fun _ => some true) (fun k => by rw [spec_l01Letters.l0, if_neg (by omega)]) ?_
      rw [List.drop_of_length_le (by rw [bytesOf_length]; omega)]
      exact Ev.now _
    | succ d ih =>
      intro i h
      have hi : i < (bytesOf s).length := by rw [bytesOf_length]; omega
      refine Ev.step (f := fun k => if isLetterN (bt s (i : Int)) = true then spec_l01Letters.l0 k s ((i + 1 : Nat) : Int) else some false) (fun k => ?_) ?_
      · rw [spec_l01Letters.l0, if_pos (by omega), if_pos (by omega), wrS (x := (i : Int) + 1) (by omega) (by omega)]
        rw [show ((i : Int) + 1) = ((i + 1 : Nat) : Int) by omega]
        unfold isLetterN
        by_cases h1 : bt s (i : Int) = 48
        · simp [h1]
        · by_cases h2 : bt s (i : Int) = 49
          · simp [h2]
          · by_cases h3 : bt s (i : Int) = 42
            · simp [h3]
            · simp [h1, h2, h3]
      · rw [List.drop_eq_getElem_cons hi, List.all_cons, get_bytesOf s i hi]
        cases hl : isLetterN (bt s (i : Int)) with
        | true => simpa using ih (i + 1) (by omega)
        | false => simpa using Ev.now false
  simpa using key s.size 0 (by omega)
theorem impl_letters (s : ByteArray) (hs : s.size ≤ 1048576 + 1048576) : impl_areLetters.f s = some (lettersB s) := by
  unfold impl_areLetters.f lettersB
  rw [if_pos (by omega)]
theorem letters_append (a b : ByteArray) : lettersB (a ++ b) = (lettersB a && lettersB b) := by
  unfold lettersB bytesOf
  rw [← List.all_append, ← List.map_append]
  simp
def perP (s : ByteArray) (m : Nat) : Prop := s.size % m = 0 ∧ ∀ i : Nat, m ≤ i → i < s.size → bt s (i : Int) = bt s ((i - m : Nat) : Int)
theorem leastS {P : Nat → Prop} : ∀ n, 1 ≤ n → P n → ∃ M, 1 ≤ M ∧ M ≤ n ∧ P M ∧ ∀ j, 1 ≤ j → j < M → ¬ P j := by
  intro n
  induction n using Nat.strongRecOn with
  | _ n ih =>
    intro h1 hn
    by_cases h : ∃ j, 1 ≤ j ∧ j < n ∧ P j
    · obtain ⟨j, a, b, c⟩ := h
      obtain ⟨M, m1, m2, m3, m4⟩ := ih j b a c
      exact ⟨M, m1, by omega, m3, m4⟩
    · exact ⟨n, h1, Nat.le_refl _, hn, fun j a b c => h ⟨j, a, b, c⟩⟩
theorem perP_least (s : ByteArray) (h : 1 ≤ s.size) : ∃ M, 1 ≤ M ∧ M ≤ s.size ∧ perP s M ∧ ∀ j, 1 ≤ j → j < M → ¬ perP s j :=
  leastS s.size h ⟨Nat.mod_self _, fun i h1 h2 => by omega⟩
section
variable {s x : ByteArray} {r : ByteArray × ByteArray}
theorem in_false (hs : s.size ≤ 1048576) {c : Nat} (h1 : 1 ≤ c) (hc : c < s.size) (hr : Ev (fun k => spec_l01Canonical.l0 k x s (s.size : Int) ((c + 1 : Nat) : Int)) r) :
    ∀ d i : Nat, i + d = s.size → Ev (fun k => spec_l01Canonical.l1 k x s (s.size : Int) (c : Int) false (i : Int)) r := by
  intro d
  induction d with
  | zero =>
    intro i h
    refine Ev.step (f := fun k => spec_l01Canonical.l0 k x s (s.size : Int) ((c + 1 : Nat) : Int)) (fun k => ?_) hr
    rw [spec_l01Canonical.l1, if_neg (by omega), if_neg (by decide), wrS (x := (c : Int) + 1) (by omega) (by omega)]
    rw [show (c : Int) + 1 = ((c + 1 : Nat) : Int) by omega]
  | succ d ih =>
    intro i h
    refine Ev.step (f := fun k => spec_l01Canonical.l1 k x s (s.size : Int) (c : Int) false ((i + 1 : Nat) : Int)) (fun k => ?_) (ih (i + 1) (by omega))
    rw [spec_l01Canonical.l1, if_pos (by omega), if_neg (by decide), wrS (x := (i : Int) + 1) (by omega) (by omega)]
    rw [show (i : Int) + 1 = ((i + 1 : Nat) : Int) by omega]
theorem in_step (hs : s.size ≤ 1048576) {c i : Nat} (h1 : 1 ≤ c) (hi : i < s.size) (hc : c ≤ i) (k : Nat) :
    spec_l01Canonical.l1 (k + 1) x s (s.size : Int) (c : Int) true (i : Int) = spec_l01Canonical.l1 k x s (s.size : Int) (c : Int) (bt s (i : Int) == bt s ((i - c : Nat) : Int)) ((i + 1 : Nat) : Int) := by
  rw [spec_l01Canonical.l1, if_pos (by omega), if_pos rfl, if_pos (by omega), if_pos (by omega), wrS (x := (i : Int) - (c : Int)) (by omega) (by omega), if_pos (by omega), if_pos (by omega), wrS (x := (i : Int) + 1) (by omega) (by omega)]
  rw [show (i : Int) + 1 = ((i + 1 : Nat) : Int) by omega, show (i : Int) - (c : Int) = ((i - c : Nat) : Int) by omega]
theorem in_all (hs : s.size ≤ 1048576) {c : Nat} (h1 : 1 ≤ c) (hc : c ≤ s.size) (hp : ∀ i : Nat, c ≤ i → i < s.size → bt s (i : Int) = bt s ((i - c : Nat) : Int)) (hr : Ev (fun k => spec_l01Canonical.j2 k x (s.extract 0 c)) r) :
    ∀ d i : Nat, i + d = s.size → c ≤ i → Ev (fun k => spec_l01Canonical.l1 k x s (s.size : Int) (c : Int) true (i : Int)) r := by
  intro d
  induction d with
  | zero =>
    intro i h _
    refine Ev.step (f := fun k => spec_l01Canonical.j2 k x (s.extract 0 c)) (fun k => ?_) hr
    rw [spec_l01Canonical.l1, if_neg (by omega), if_pos rfl, if_pos (by omega), if_pos (by omega), Int.toNat_natCast]
  | succ d ih =>
    intro i h hci
    refine Ev.step (f := fun k => spec_l01Canonical.l1 k x s (s.size : Int) (c : Int) true ((i + 1 : Nat) : Int)) (fun k => ?_) (ih (i + 1) (by omega) (by omega))
    rw [in_step hs h1 (by omega) hci, hp i hci (by omega)]
    simp
theorem in_some (hs : s.size ≤ 1048576) {c : Nat} (h1 : 1 ≤ c) (hc : c < s.size) (hr : Ev (fun k => spec_l01Canonical.l0 k x s (s.size : Int) ((c + 1 : Nat) : Int)) r) :
    ∀ d i : Nat, i + d = s.size → c ≤ i → (∃ t, i ≤ t ∧ t < s.size ∧ bt s (t : Int) ≠ bt s ((t - c : Nat) : Int)) → Ev (fun k => spec_l01Canonical.l1 k x s (s.size : Int) (c : Int) true (i : Int)) r := by
  intro d
  induction d with
  | zero =>
    intro i h _ ht
    obtain ⟨t, t1, t2, _⟩ := ht
    omega
  | succ d ih =>
    intro i h hci ht
    obtain ⟨t, t1, t2, t3⟩ := ht
    by_cases e : bt s (i : Int) = bt s ((i - c : Nat) : Int)
    · refine Ev.step (f := fun k => spec_l01Canonical.l1 k x s (s.size : Int) (c : Int) true ((i + 1 : Nat) : Int)) (fun k => ?_) (ih (i + 1) (by omega) (by omega) ⟨t, ?_, t2, t3⟩)
      · rw [in_step hs h1 (by omega) hci, e]
        simp
      · rcases Nat.lt_or_ge i t with h' | h'
        · exact h'
        · have : t = i := by omega
          subst this
          exact absurd e t3
    · refine Ev.step (f := fun k => spec_l01Canonical.l1 k x s (s.size : Int) (c : Int) false ((i + 1 : Nat) : Int)) (fun k => ?_) (in_false hs h1 hc hr d (i + 1) (by omega))
      rw [in_step hs h1 (by omega) hci, beq_eq_false_iff_ne.2 e]
theorem not_perP {c : Nat} (h : ¬ perP s c) (hd : s.size % c = 0) : ∃ t, c ≤ t ∧ t < s.size ∧ bt s (t : Int) ≠ bt s ((t - c : Nat) : Int) := by
  by_cases g : ∃ t, c ≤ t ∧ t < s.size ∧ bt s (t : Int) ≠ bt s ((t - c : Nat) : Int)
  · exact g
  · exfalso
    refine h ⟨hd, fun i h1 h2 => ?_⟩
    by_cases e : bt s (i : Int) = bt s ((i - c : Nat) : Int)
    · exact e
    · exact absurd ⟨i, h1, h2, e⟩ g
theorem tmod_nat (a b : Nat) : Int.tmod (a : Int) (b : Int) = ((a % b : Nat) : Int) := by
  rw [Int.tmod_eq_emod_of_nonneg (by omega)]
  omega
theorem out_root (hs : s.size ≤ 1048576) {m : Nat} (m1 : 1 ≤ m) (m2 : m ≤ s.size) (hp : perP s m) (hl : ∀ j, 1 ≤ j → j < m → ¬ perP s j) (hr : Ev (fun k => spec_l01Canonical.j2 k x (s.extract 0 m)) r) :
    ∀ d c : Nat, c + d = m → 1 ≤ c → Ev (fun k => spec_l01Canonical.l0 k x s (s.size : Int) (c : Int)) r := by
  intro d
  induction d with
  | zero =>
    intro c h h1
    obtain rfl : c = m := by omega
    refine Ev.step (f := fun k => spec_l01Canonical.l1 k x s (s.size : Int) (c : Int) true (c : Int)) (fun k => ?_) (in_all hs h1 m2 hp.2 hr (s.size - c) c (by omega) (Nat.le_refl _))
    rw [spec_l01Canonical.l0, if_pos (by omega), if_neg (by omega), tmod_nat, hp.1, if_pos (by omega)]
  | succ d ih =>
    intro c h h1
    have next := ih (c + 1) (by omega) (by omega)
    by_cases hd : s.size % c = 0
    · refine Ev.step (f := fun k => spec_l01Canonical.l1 k x s (s.size : Int) (c : Int) true (c : Int)) (fun k => ?_) (in_some hs h1 (by omega) next (s.size - c) c (by omega) (Nat.le_refl _) (not_perP (hl c h1 (by omega)) hd))
      rw [spec_l01Canonical.l0, if_pos (by omega), if_neg (by omega), tmod_nat, hd, if_pos (by omega)]
    · refine Ev.step (f := fun k => spec_l01Canonical.l0 k x s (s.size : Int) ((c + 1 : Nat) : Int)) (fun k => ?_) next
      rw [spec_l01Canonical.l0, if_pos (by omega), if_neg (by omega), tmod_nat, if_neg (by omega), wrS (x := (c : Int) + 1) (by omega) (by omega)]
      rw [show (c : Int) + 1 = ((c + 1 : Nat) : Int) by omega]
end
theorem rep_get (l : List UInt8) (hl : 0 < l.length) : ∀ c i, i < c * l.length → (Lib.repeatL l c)[i]? = l[i % l.length]? := by
  intro c
  induction c with
  | zero => intro i h; omega
  | succ c ih =>
    intro i h
    show (l ++ Lib.repeatL l c)[i]? = _
    rw [Nat.succ_mul] at h
    by_cases hi : i < l.length
    · rw [List.getElem?_append_left hi, Nat.mod_eq_of_lt hi]
    · rw [List.getElem?_append_right (by omega), ih (i - l.length) (by omega), ← Nat.mod_eq_sub_mod (by omega)]
theorem bt_eq (s t : ByteArray) (i j : Nat) (hi : i < s.size) (hj : j < t.size) : bt s (i : Int) = bt t (j : Int) ↔ s.data.toList[i]? = t.data.toList[j]? := by
  have hi' : i < s.data.toList.length := by rw [← Lib.size_eq]; exact hi
  have hj' : j < t.data.toList.length := by rw [← Lib.size_eq]; exact hj
  rw [List.getElem?_eq_getElem hi', List.getElem?_eq_getElem hj']
  unfold bt
  rw [Int.toNat_natCast, Int.toNat_natCast, dif_pos hi, dif_pos hj]
  have e1 : s[i] = s.data.toList[i] := by simp [ByteArray.getElem_eq_getElem_data]
  have e2 : t[j] = t.data.toList[j] := by simp [ByteArray.getElem_eq_getElem_data]
  rw [e1, e2]
  constructor
  · intro h
    have : s.data.toList[i].toNat = t.data.toList[j].toNat := by omega
    rw [UInt8.toNat_inj.1 this]
  · intro h
    rw [Option.some.inj h]
theorem per_mod {s : ByteArray} {c : Nat} (h1 : 1 ≤ c) (hc : c ≤ s.size) : (∀ i : Nat, c ≤ i → i < s.size → bt s (i : Int) = bt s ((i - c : Nat) : Int)) ↔ (∀ i : Nat, i < s.size → bt s (i : Int) = bt s ((i % c : Nat) : Int)) := by
  constructor
  · intro h i
    induction i using Nat.strongRecOn with
    | _ i ih =>
      intro hi
      by_cases hci : c ≤ i
      · rw [h i hci hi, ih (i - c) (by omega) (by omega), ← Nat.mod_eq_sub_mod hci]
      · rw [Nat.mod_eq_of_lt (by omega)]
  · intro h i hci hi
    rw [h i hi, h (i - c) (by omega), ← Nat.mod_eq_sub_mod hci]
theorem rep_iff {s : ByteArray} {c : Nat} (h1 : 1 ≤ c) (hc : c ≤ s.size) (hd : s.size % c = 0) :
    (Go.Proofs.Ytccinmopfchjlaa.Rep.val (s.extract 0 c) ((s.size / c : Nat) : Int)).toList = s.toList ↔ ∀ i : Nat, c ≤ i → i < s.size → bt s (i : Int) = bt s ((i - c : Nat) : Int) := by
  rw [per_mod h1 hc, Lib.toList_data, Lib.toList_data]
  unfold Go.Proofs.Ytccinmopfchjlaa.Rep.val
  rw [Int.toNat_natCast, Lib.extract_data]
  simp only [List.drop_zero, Nat.sub_zero]
  have hL : s.data.toList.length = s.size := (Lib.size_eq s).symm
  have hl : (s.data.toList.take c).length = c := by rw [List.length_take, hL]; omega
  have hn : s.size / c * c = s.size := Nat.div_mul_cancel (Nat.dvd_of_mod_eq_zero hd)
  have hlen : (Lib.repeatL (s.data.toList.take c) (s.size / c)).length = s.size := by rw [Lib.repeatL_length, hl, hn]
  have get : ∀ i, i < s.size → (Lib.repeatL (s.data.toList.take c) (s.size / c))[i]? = s.data.toList[i % c]? := by
    intro i hi
    rw [rep_get _ (by omega) _ _ (by rw [hl, hn]; exact hi), hl, List.getElem?_take, if_pos (Nat.mod_lt _ (by omega))]
  constructor
  · intro h i hi
    have hm : i % c < s.size := Nat.lt_of_lt_of_le (Nat.mod_lt _ (by omega)) hc
    rw [bt_eq s s i (i % c) hi hm, ← get i hi, h]
  · intro h
    refine List.ext_getElem? fun i => ?_
    by_cases hi : i < s.size
    · have hm : i % c < s.size := Nat.lt_of_lt_of_le (Nat.mod_lt _ (by omega)) hc
      have := (bt_eq s s i (i % c) hi hm).1 (h i hi)
      rw [this]
      exact get i hi
    · rw [List.getElem?_eq_none (by show _ ≤ _; simp only [hlen]; omega), List.getElem?_eq_none (by omega)]
theorem ev_impl_root {s : ByteArray} (hs : s.size ≤ 8192) {m : Nat} (m1 : 1 ≤ m) (m2 : m ≤ s.size) (hp : perP s m) (hl : ∀ j, 1 ≤ j → j < m → ¬ perP s j) :
    Ev (fun k => impl_root.f k s) (s.extract 0 m) := by
  unfold impl_root.f
  have key : ∀ d c : Nat, c + d = m → 1 ≤ c → Ev (fun k => impl_root.l0 k s (c : Int)) (s.extract 0 m) := by
    intro d
    have ev : ∀ c : Nat, 1 ≤ c → c ≤ s.size → s.size % c = 0 → ∀ k, impl_root.l0 (k + 1) s (c : Int) = if (Go.Proofs.Ytccinmopfchjlaa.Rep.val (s.extract 0 c) ((s.size / c : Nat) : Int)).toList = s.toList then some (s.extract 0 c) else impl_root.l0 k s ((c + 1 : Nat) : Int) := by
      intro c h1 hc hd k
      have hq : s.size / c * c = s.size := Nat.div_mul_cancel (Nat.dvd_of_mod_eq_zero hd)
      have hq2 : s.size / c ≤ s.size := Nat.div_le_self _ _
      have hx : (s.extract 0 c).size = c := by simp; omega
      rw [impl_root.l0, if_neg (by omega), if_pos (by omega), if_pos (by omega), if_pos (by omega)]
      unfold strings_Repeat.f
      rw [show ((s.size : Nat) : Int) / (c : Int) = ((s.size / c : Nat) : Int) from (Int.natCast_ediv _ _).symm]
      generalize s.size / c = q at *
      rw [wrS (x := (q : Int)) (by omega) (by omega), Int.toNat_natCast, Int.toNat_natCast, if_pos ⟨by omega, by omega, by rw [hx, Nat.mul_comm, hq]; omega⟩]
      rw [wrS (x := (c : Int) + 1) (by omega) (by omega), show (c : Int) + 1 = ((c + 1 : Nat) : Int) by omega]
      rfl
    induction d with
    | zero =>
      intro c h h1
      obtain rfl : c = m := by omega
      refine Ev.step (f := fun k => some (s.extract 0 c)) (fun k => ?_) (Ev.now _)
      rw [ev c h1 m2 hp.1, if_pos ((rep_iff h1 m2 hp.1).2 hp.2)]
    | succ d ih =>
      intro c h h1
      have next := ih (c + 1) (by omega) (by omega)
      refine Ev.step (f := fun k => impl_root.l0 k s ((c + 1 : Nat) : Int)) (fun k => ?_) next
      by_cases hd : s.size % c = 0
      · rw [ev c h1 (by omega) hd, if_neg (fun e => hl c h1 (by omega) ⟨hd, (rep_iff h1 (by omega) hd).1 e⟩)]
      · rw [impl_root.l0, if_neg (by omega), if_neg (by omega), wrS (x := (c : Int) + 1) (by omega) (by omega)]
        rw [show (c : Int) + 1 = ((c + 1 : Nat) : Int) by omega]
  exact key (m - 1) 1 (by omega) (by omega)
def rotB : Nat → ByteArray → ByteArray → ByteArray × ByteArray
  | 0, x, y => (x, y)
  | n + 1, x, y => if bt x (n : Int) = bt y ((y.size - 1 : Nat) : Int) then rotB n (x.extract 0 n) (y.extract (y.size - 1) y.size ++ y.extract 0 (y.size - 1)) else (x, y)
theorem rot_size (y : ByteArray) (h : 1 ≤ y.size) : (y.extract (y.size - 1) y.size ++ y.extract 0 (y.size - 1)).size = y.size := by
  simp <;> omega
theorem rotB_size : ∀ n x y, x.size = n → 1 ≤ y.size → (rotB n x y).1.size ≤ n ∧ (rotB n x y).2.size = y.size := by
  intro n
  induction n with
  | zero => intro x y hx hy; simp [rotB, hx]
  | succ n ih =>
    intro x y hx hy
    unfold rotB
    split
    · have := ih (x.extract 0 n) (y.extract (y.size - 1) y.size ++ y.extract 0 (y.size - 1)) (by simp; omega) (by rw [rot_size y hy]; exact hy)
      rw [rot_size y hy] at this
      omega
    · simp [hx]
theorem nil_iff (x : ByteArray) : x.toList = ([] : List UInt8) ↔ x.size = 0 := by
  rw [Lib.toList_data, Lib.size_eq]
  exact List.length_eq_zero_iff.symm
theorem ev_spec_rot : ∀ n x y, x.size = n → n ≤ 64 → 1 ≤ y.size → y.size ≤ 64 → Ev (fun k => spec_l01Canonical.l2 k x y) (rotB n x y) := by
  intro n
  induction n with
  | zero =>
    intro x y hx _ _ _
    exact Ev.step (f := fun _ => some (x, y)) (fun k => by rw [spec_l01Canonical.l2, if_neg (by omega)]) (Ev.now _)
  | succ n ih =>
    intro x y hx hn hy hy64
    refine Ev.step (f := fun k => if bt x (n : Int) = bt y ((y.size - 1 : Nat) : Int) then spec_l01Canonical.l2 k (x.extract 0 n) (y.extract (y.size - 1) y.size ++ y.extract 0 (y.size - 1)) else some (x, y)) (fun k => ?_) ?_
    · have e := rot_size y hy
      rw [ByteArray.size_append] at e
      rw [spec_l01Canonical.l2, if_pos (by omega), wrS (x := (x.size : Int) - 1) (by omega) (by omega), wrS (x := (y.size : Int) - 1) (by omega) (by omega), show (x.size : Int) - 1 = (n : Int) by omega, show (y.size : Int) - 1 = ((y.size - 1 : Nat) : Int) by omega]
      rw [if_pos (by omega), if_pos (by omega), if_pos (by omega), if_pos (by omega), if_pos (show ((y.size - 1 : Nat) : Int) ≤ (y.size : Int) by omega), Int.toNat_natCast, Int.toNat_natCast, if_pos (show (y.extract (y.size - 1) y.size).size + (y.extract 0 (y.size - 1)).size ≤ 9223372036854775807 by omega), if_pos (show (n : Int) ≤ (x.size : Int) by omega)]
    · unfold rotB
      by_cases h : bt x (n : Int) = bt y ((y.size - 1 : Nat) : Int)
      · simp only [if_pos h]
        exact ih _ _ (by simp; omega) (by omega) (by rw [rot_size y hy]; exact hy) (by rw [rot_size y hy]; exact hy64)
      · simp only [if_neg h]
        exact Ev.now _
theorem ev_impl_rot : ∀ n x y, x.size = n → n ≤ 64 → 1 ≤ y.size → y.size ≤ 64 → Ev (fun k => impl_sequence.l0 k x y) (rotB n x y) := by
  intro n
  induction n with
  | zero =>
    intro x y hx _ _ _
    exact Ev.step (f := fun _ => some (x, y)) (fun k => by rw [impl_sequence.l0, if_pos ((nil_iff x).2 hx)]) (Ev.now _)
  | succ n ih =>
    intro x y hx hn hy hy64
    refine Ev.step (f := fun k => if bt x (n : Int) = bt y ((y.size - 1 : Nat) : Int) then impl_sequence.l0 k (x.extract 0 n) (y.extract (y.size - 1) y.size ++ y.extract 0 (y.size - 1)) else some (x, y)) (fun k => ?_) ?_
    · have e := rot_size y hy
      rw [ByteArray.size_append] at e
      rw [impl_sequence.l0, if_neg (fun z => by have := (nil_iff x).1 z; omega), wrS (x := (x.size : Int) - 1) (by omega) (by omega), wrS (x := (y.size : Int) - 1) (by omega) (by omega), show (x.size : Int) - 1 = (n : Int) by omega, show (y.size : Int) - 1 = ((y.size - 1 : Nat) : Int) by omega]
      rw [if_pos (by omega), if_pos (by omega), if_pos (by omega), if_pos (by omega), if_pos (show (n : Int) ≤ (x.size : Int) by omega), if_pos (show ((y.size - 1 : Nat) : Int) ≤ (y.size : Int) by omega), Int.toNat_natCast, Int.toNat_natCast, if_pos (show (y.extract (y.size - 1) y.size).size + (y.extract 0 (y.size - 1)).size ≤ 9223372036854775807 by omega)]
    · unfold rotB
      by_cases h : bt x (n : Int) = bt y ((y.size - 1 : Nat) : Int)
      · simp only [if_pos h]
        exact ih _ _ (by simp; omega) (by omega) (by rw [rot_size y hy]; exact hy) (by rw [rot_size y hy]; exact hy64)
      · simp only [if_neg h]
        exact Ev.now _
theorem both_canon (x y : ByteArray) (hy : 1 ≤ y.size) (h64 : x.size + y.size ≤ 64) :
    ∃ c : ByteArray × ByteArray, Ev (fun k => spec_l01Canonical.f k x y) c ∧ Ev (fun k => impl_sequence.f k x y) c ∧ c.1.size ≤ x.size ∧ 1 ≤ c.2.size ∧ c.2.size ≤ y.size := by
  obtain ⟨m, m1, m2, hp, hl⟩ := perP_least y hy
  have hz : (y.extract 0 m).size = m := by simp; omega
  have sz := rotB_size x.size x (y.extract 0 m) rfl (by omega)
  refine ⟨rotB x.size x (y.extract 0 m), ?_, ?_, sz.1, by omega, by omega⟩
  · unfold spec_l01Canonical.f
    have hr : Ev (fun k => spec_l01Canonical.j2 k x (y.extract 0 m)) (rotB x.size x (y.extract 0 m)) :=
      Ev.step (f := fun k => spec_l01Canonical.l2 k x (y.extract 0 m)) (fun k => by rw [spec_l01Canonical.j2]) (ev_spec_rot x.size x (y.extract 0 m) rfl (by omega) (by omega) (by omega))
    exact out_root (by omega) m1 m2 hp hl hr (m - 1) 1 (by omega) (by omega)
  · unfold impl_sequence.f
    refine Ev.bind (ev_impl_root (by omega) m1 m2 hp hl) ?_
    exact ev_impl_rot x.size x (y.extract 0 m) rfl (by omega) (by omega) (by omega)
theorem given_val (a b : ByteArray) (h : a.size + b.size ≤ 4194304) : impl_areGiven.f a b = some (decide (1 ≤ b.size ∧ a.size + b.size ≤ 64)) := by
  unfold impl_areGiven.f
  by_cases hb : b.size = 0
  · rw [if_pos ((nil_iff b).2 hb)]
    simp [hb]
  · rw [if_neg (fun z => hb ((nil_iff b).1 z)), wrS (by omega) (by omega)]
    congr 1
    rw [decide_eq_decide]
    omega
theorem both_seq (a b : ByteArray) (h : a.size + b.size ≤ 1048576) : ∃ r : Bool, Ev (fun k => spec_l01Seq.f k a b) r ∧ Ev (fun k => impl_IsSequence.f k a b) r ∧
    (r = true → lettersB a = true ∧ lettersB b = true ∧ 1 ≤ b.size ∧ a.size + b.size ≤ 64) := by
  have la := ev_spec_letters a (by omega)
  have lb := ev_spec_letters b (by omega)
  have li : impl_areLetters.f (a ++ b) = some (lettersB a && lettersB b) := by rw [impl_letters _ (by rw [ByteArray.size_append]; omega), letters_append]
  have himpl : ∀ k, impl_IsSequence.f k a b = if (lettersB a && lettersB b) = true then (if 1 ≤ b.size ∧ a.size + b.size ≤ 64 then (impl_sequence.f k a b).bind fun c => some (c.1.toList == a.toList && (c.2.toList == b.toList)) else some false) else some false := by
    intro k
    unfold impl_IsSequence.f
    rw [if_pos (by omega), li, Option.bind_some, given_val a b (by omega), Option.bind_some]
    simp only [decide_eq_true_eq]
  have hspec : ∀ r, Ev (fun k => if lettersB b = true then (if b.size = 0 then some false else if a.size + b.size ≤ 64 then (spec_l01Canonical.f k a b).bind fun c => some (c.1.toList == a.toList && (c.2.toList == b.toList)) else some false) else some false) r → lettersB a = true → Ev (fun k => spec_l01Seq.f k a b) r := by
    intro r hr h1
    unfold spec_l01Seq.f
    refine Ev.bind la ?_
    simp only [h1, if_true]
    refine Ev.bind lb ?_
    refine Ev.congr (fun k => ?_) hr
    by_cases hb : b.size = 0
    · rw [if_pos ((nil_iff b).2 hb), if_pos hb]
    · rw [if_neg (fun z => hb ((nil_iff b).1 z)), if_neg hb, wrS (by omega) (by omega)]
      by_cases h64 : a.size + b.size ≤ 64
      · rw [if_neg (show ¬ (a.size : Int) + (b.size : Int) > 64 by omega), if_pos h64]
      · rw [if_pos (show (a.size : Int) + (b.size : Int) > 64 by omega), if_neg h64]
  cases h1 : lettersB a with
  | false =>
    refine ⟨false, ?_, ?_, by simp⟩
    · unfold spec_l01Seq.f
      refine Ev.bind la ?_
      simp only [h1, Bool.false_eq_true, if_false]
      exact Ev.now _
    · exact Ev.congr (fun k => by rw [himpl k, h1, Bool.false_and, if_neg (by decide)]) (Ev.now false)
  | true =>
    cases h2 : lettersB b with
    | false =>
      refine ⟨false, hspec _ ?_ h1, ?_, by simp⟩
      · simp only [h2, Bool.false_eq_true, if_false]
        exact Ev.now _
      · exact Ev.congr (fun k => by rw [himpl k, h1, h2, if_neg (by decide)]) (Ev.now false)
    | true =>
      by_cases hb : 1 ≤ b.size ∧ a.size + b.size ≤ 64
      · obtain ⟨c, c1, c2, _⟩ := both_canon a b hb.1 hb.2
        refine ⟨c.1.toList == a.toList && (c.2.toList == b.toList), hspec _ ?_ h1, ?_, fun _ => ⟨rfl, rfl, hb⟩⟩
        · simp only [h2, if_true, if_neg (show ¬ b.size = 0 by omega), if_pos hb.2]
          exact Ev.bind c1 (Ev.now _)
        · refine Ev.congr (f := fun k => (impl_sequence.f k a b).bind fun c => some (c.1.toList == a.toList && (c.2.toList == b.toList))) (fun k => by rw [himpl k, h1, h2, if_pos (by decide), if_pos hb]) ?_
          exact Ev.bind c2 (Ev.now _)
      · refine ⟨false, hspec _ ?_ h1, ?_, by simp⟩
        · simp only [h2, if_true]
          by_cases hz : b.size = 0
          · simp only [if_pos hz]; exact Ev.now _
          · simp only [if_neg hz, if_neg (show ¬ a.size + b.size ≤ 64 by omega)]; exact Ev.now _
        · exact Ev.congr (fun k => by rw [himpl k, h1, h2, if_pos (by decide), if_neg hb]) (Ev.now false)
theorem ev_all1 {a b : ByteArray} {r : Bool} (h : Ev (fun k => impl_IsSequence.f k a b) r) : Ev (fun k => allM (fun x : S25 => impl_IsSequence.f k x.f0 x.f1) [⟨a, b⟩]) r := by
  refine Ev.congr (f := fun k => (impl_IsSequence.f k a b).bind fun q => if q = true then some true else some false) (fun k => rfl) ?_
  refine Ev.bind h ?_
  cases r <;> exact Ev.now _
theorem ev_code1 {a b : ByteArray} {r : Bool} (q : Bool) (h : Ev (fun k => impl_IsSequence.f k a b) r) : Ev (fun k => impl_sequencesCode.f k q [⟨a, b⟩]) (if r = true then (if q = true then 0 else 2) else 1) := by
  unfold impl_sequencesCode.f
  exact Ev.bind (ev_all1 h) (Ev.now _)
def atV (a b : ByteArray) (k : Nat) : Int := if k < a.size then bt a (k : Int) else bt b (((k - a.size) % b.size : Nat) : Int)
theorem at_val (a b : ByteArray) (k : Nat) (hb : 1 ≤ b.size) (ha : a.size ≤ 64) (hk : k ≤ 1000000000) : spec_l01At.f a b (k : Int) = some (atV a b k) := by
  unfold spec_l01At.f atV
  by_cases h : k < a.size
  · rw [if_pos (by omega), if_pos (by omega), if_pos h]
  · have hm := Nat.mod_lt (k - a.size) (show 0 < b.size by omega)
    rw [if_neg (by omega), if_neg (by omega), wrS (by omega) (by omega), show (k : Int) - (a.size : Int) = ((k - a.size : Nat) : Int) by omega, tmod_nat]
    generalize (k - a.size) % b.size = m at *
    rw [if_pos (by omega), if_pos (by omega), if_neg h]
theorem at_val' (a b : ByteArray) (k : Nat) (hb : 1 ≤ b.size) (ha : a.size ≤ 64) (hk : k ≤ 1000000000) : impl_Sequence_at.f a b (k : Int) = some (atV a b k) := at_val a b k hb ha hk
theorem in_val (n lo hi : Int) : spec_l01In.f n lo hi = some (decide (lo ≤ n ∧ n ≤ hi)) := by
  unfold spec_l01In.f
  by_cases h : n ≥ lo
  · rw [if_pos h]; congr 1; rw [decide_eq_decide]; omega
  · rw [if_neg h]; congr 1; symm; rw [decide_eq_false_iff_not]; omega
theorem in_val' (n lo hi : Int) : impl_within.f n lo hi = some (decide (lo ≤ n ∧ n ≤ hi)) := by
  unfold impl_within.f
  by_cases h : lo ≤ n
  · rw [if_pos h]; congr 1; rw [decide_eq_decide]; omega
  · rw [if_neg h]; congr 1; symm; rw [decide_eq_false_iff_not]; omega
end Go.Proofs.Ytccinmopfchjlaa.Q
end
section
namespace Go.Proofs.Ytccinmopfchjlaa.Ang
def ang (n d : Int) : Int × Int := ((n % d) / Int.gcd (n % d) d, d / Int.gcd (n % d) d)
def isA (n d : Int) : Bool := decide (1 ≤ d ∧ d ≤ 8191 ∧ 0 ≤ n ∧ n ≤ d - 1 ∧ Int.gcd n d = 1)
def wide (n d : Int) : Prop := 1 ≤ d ∧ 0 ≤ n ∧ n < d ∧ Int.gcd n d = 1
theorem isA_iff {n d : Int} : isA n d = true ↔ 1 ≤ d ∧ d ≤ 8191 ∧ 0 ≤ n ∧ n ≤ d - 1 ∧ Int.gcd n d = 1 := by simp [isA]
theorem isA_wide {n d : Int} (h : isA n d = true) : wide n d := by
  obtain ⟨a, b, c, e, f⟩ := isA_iff.1 h
  exact ⟨a, c, by omega, f⟩
theorem gcd_pos {n d : Int} (hd : 0 < d) : (0 : Int) < (Int.gcd n d : Int) := by
  have := Int.gcd_pos_iff.2 (show n ≠ 0 ∨ d ≠ 0 from .inr (by omega))
  omega
theorem gcd_le {n d : Int} (hd : 0 < d) : (Int.gcd n d : Int) ≤ d := by
  exact Int.le_of_dvd hd (Int.gcd_dvd_right _ _)
theorem ang_den_pos {n d : Int} (hd : 0 < d) : 0 < (ang n d).2 := by
  have h1 := gcd_pos (n := n % d) hd
  have h2 := gcd_le (n := n % d) hd
  exact Int.ediv_pos_of_pos_of_dvd hd (by omega) (Int.gcd_dvd_right _ _)
theorem ang_den_le {n d : Int} (hd : 0 < d) : (ang n d).2 ≤ d := Int.ediv_le_self _ (by omega)
theorem ang_mul {n d : Int} (hd : 0 < d) : ∃ g : Int, 0 < g ∧ (ang n d).1 * g = n % d ∧ (ang n d).2 * g = d := by
  refine ⟨Int.gcd (n % d) d, gcd_pos hd, ?_, ?_⟩
  · exact Int.ediv_mul_cancel (Int.gcd_dvd_left _ _)
  · exact Int.ediv_mul_cancel (Int.gcd_dvd_right _ _)
theorem ang_wide {n d : Int} (hd : 0 < d) : wide (ang n d).1 (ang n d).2 := by
  obtain ⟨g, hg, h1, h2⟩ := ang_mul (n := n) hd
  have hn := Int.emod_nonneg n (show d ≠ 0 by omega)
  have hl := Int.emod_lt_of_pos n hd
  have hp := ang_den_pos (n := n) hd
  have hn0 : 0 ≤ (ang n d).1 := by
    unfold ang
    exact Int.ediv_nonneg hn (by omega)
  refine ⟨by omega, hn0, ?_, ?_⟩
  · have : (ang n d).1 * g < (ang n d).2 * g := by omega
    exact (Int.mul_lt_mul_right hg).1 this
  · unfold ang
    have hg2 := gcd_pos (n := n % d) hd
    rw [Int.gcd_ediv (Int.gcd_dvd_left _ _) (Int.gcd_dvd_right _ _), Int.natAbs_natCast]
    exact Nat.div_self (by omega)
theorem ang_scale {g n d : Int} (hg : 0 < g) (hd : 0 < d) : ang (g * n) (g * d) = ang n d := by
  unfold ang
  rw [Int.mul_emod_mul_of_pos _ _ hg, Int.gcd_mul_left]
  have hgg := gcd_pos (n := n % d) hd
  have e : ((g.natAbs * Int.gcd (n % d) d : Nat) : Int) = g * (Int.gcd (n % d) d : Int) := by
    rw [Int.natCast_mul, Int.natAbs_of_nonneg (by omega)]
  rw [e, Int.mul_ediv_mul_of_pos _ _ hg, Int.mul_ediv_mul_of_pos _ _ hg]
def lt (a b : Int × Int) : Prop := a.1 * b.2 < b.1 * a.2
instance (a b : Int × Int) : Decidable (lt a b) := by unfold lt; exact inferInstance
theorem lt_irrefl (a : Int × Int) : ¬ lt a a := by unfold lt; omega
theorem exists_mult : ∀ n : Nat, ∃ L : Int, 0 < L ∧ ∀ d : Int, 1 ≤ d → d ≤ n → d ∣ L
  | 0 => ⟨1, by omega, fun d h1 h2 => by omega⟩
  | n + 1 => by
    obtain ⟨L, hL, h⟩ := exists_mult n
    refine ⟨L * (n + 1 : Nat), Int.mul_pos hL (by omega), fun d h1 h2 => ?_⟩
    by_cases e : d = (n + 1 : Nat)
    · subst e
      exact Int.dvd_mul_left _ _
    · exact Int.dvd_trans (h d h1 (by omega)) (Int.dvd_mul_right _ _)
def denMax : Nat := 1152921504606846976
noncomputable def bigL : Int := Classical.choose (exists_mult denMax)
noncomputable def key (a : Int × Int) : Int := a.1 * (bigL / a.2)
end Go.Proofs.Ytccinmopfchjlaa.Ang
end
section
namespace Go.Proofs.Ytccinmopfchjlaa.Q
open Go.RowKit Go.Proofs.YtccinmopfchjlaaW.PrintWords Go.Proofs.YtccinmopfchjlaaW.PrintLast Go.Proofs.YtccinmopfchjlaaW.Ext Go.Proofs.Ytccinmopfchjlaa.Ang
set_option linter.unusedVariables false
theorem wrap_in {x : Int} (h0 : -9223372036854775808 ≤ x) (h1 : x ≤ 9223372036854775807) : wrap64 x = x := by unfold wrap64; omega
theorem ev_if {α : Type} {c : Prop} [Decidable c] {f g : Nat → Option α} {r : α} (h1 : c → Ev f r) (h2 : ¬ c → Ev g r) : Ev (fun k => if c then f k else g k) r := by
  by_cases h : c
  · simp only [if_pos h]; exact h1 h
  · simp only [if_neg h]; exact h2 h
theorem ev_spec_divisor : ∀ (n m : Nat), Ev (fun k => spec_l01Divisor.f k (m : Int) (n : Int)) ((Nat.gcd m n : Nat) : Int) := by
  intro n
  induction n using Nat.strongRecOn with
  | _ n ih =>
    intro m
    refine Ev.step (f := fun k => if (n : Int) > 0 then (if (n : Int) = 0 then none else spec_l01Divisor.f k (n : Int) (Int.tmod (m : Int) (n : Int))) else some (m : Int)) (fun k => rfl) ?_
    refine ev_if (fun h => ?_) (fun h => ?_)
    · have hn : 0 < n := by omega
      have e : Int.tmod (m : Int) (n : Int) = ((m % n : Nat) : Int) := by
        rw [Int.tmod_eq_emod_of_nonneg (by omega)]
        omega
      simp only [if_neg (show ¬ (n : Int) = 0 by omega)]
      rw [e]
      have := ih (m % n) (Nat.mod_lt _ hn) n
      rw [show Nat.gcd m n = Nat.gcd n (m % n) by rw [Nat.gcd_comm m n, Nat.gcd_rec n m, Nat.gcd_comm]]
      exact this
    · have : n = 0 := by omega
      subst this
      rw [Nat.gcd_zero_right]
      exact Ev.now _
theorem ev_spec_gcd {a b : Int} (ha : 0 ≤ a) (hb : 0 ≤ b) : Ev (fun k => spec_l01Divisor.f k a b) (Int.gcd a b : Int) := by
  obtain ⟨m, rfl⟩ := Int.eq_ofNat_of_zero_le ha
  obtain ⟨n, rfl⟩ := Int.eq_ofNat_of_zero_le hb
  exact ev_spec_divisor n m
theorem tmod_turn {n d : Int} (hd : 0 < d) : Int.tmod (Int.tmod n d + d) d = n % d := by
  have h0 : 0 ≤ Int.tmod n d + d := by
    have := Int.lt_tmod_of_pos n hd
    omega
  rw [Int.tmod_eq_emod_of_nonneg h0, Int.add_emod_right]
  by_cases h : 0 ≤ n
  · rw [Int.tmod_eq_emod_of_nonneg h, Int.emod_emod_of_dvd _ (Int.dvd_refl d)]
  · obtain ⟨m, rfl⟩ : ∃ m, n = -m := ⟨-n, by omega⟩
    rw [Int.neg_tmod, Int.tmod_eq_emod_of_nonneg (by omega)]
    have e := Int.emod_add_mul_ediv m d
    have e3 : -(m % d) = -m + d * (m / d) := by omega
    rw [e3, Int.add_mul_emod_self_left]
theorem ang_fst (n d : Int) : (ang n d).1 = (n % d) / Int.gcd (n % d) d := rfl
theorem ang_snd (n d : Int) : (ang n d).2 = d / Int.gcd (n % d) d := rfl
theorem ev_spec_Of {n d : Int} (hd : 0 < d) (hd' : d ≤ 4611686018427387904) : Ev (fun k => spec_l01Of.f k n d) (ang n d) := by
  have t1 := Int.lt_tmod_of_pos n hd
  have t2 := Int.tmod_lt_of_pos n hd
  have m0 := Int.emod_nonneg n (show d ≠ 0 by omega)
  have m1 := Int.emod_lt_of_pos n hd
  have hg := gcd_pos (n := n % d) hd
  have w := ang_wide (n := n) hd
  have wd := ang_den_le (n := n) hd
  unfold spec_l01Of.f
  simp only [if_neg (show ¬ d = 0 by omega)]
  rw [wrap_in (show -9223372036854775808 ≤ Int.tmod n d + d by omega) (by omega), tmod_turn hd]
  refine Ev.bind (ev_spec_gcd m0 (by omega)) ?_
  simp only [if_neg (show ¬ (Int.gcd (n % d) d : Int) = 0 by omega)]
  rw [Int.tdiv_eq_ediv_of_nonneg m0, Int.tdiv_eq_ediv_of_nonneg (by omega), ← ang_fst, ← ang_snd, wrap_in (by have := w.2.1; omega) (by have := w.2.2.1; omega), wrap_in (by have := w.1; omega) (by omega)]
  exact Ev.now _
def dbl (a : Int × Int) : Int × Int := ang (2 * a.1) a.2
theorem isA_bd {n d : Int} (h : isA n d = true) : 0 < d ∧ d ≤ 8191 ∧ 0 ≤ n ∧ n ≤ 8190 := by
  obtain ⟨a, b, c, e, _⟩ := isA_iff.1 h
  omega
theorem ang_isA {n d : Int} (hd : 0 < d) (h8 : d ≤ 8191) : isA (ang n d).1 (ang n d).2 = true := by
  have w := ang_wide (n := n) hd
  have l := ang_den_le (n := n) hd
  exact isA_iff.2 ⟨w.1, by omega, w.2.1, by have := w.2.2.1; omega, w.2.2.2⟩
theorem dbl_isA {a b : Int} (h : isA a b = true) : isA (dbl (a, b)).1 (dbl (a, b)).2 = true := ang_isA (isA_bd h).1 (isA_bd h).2.1
theorem ev_spec_Double {a b : Int} (h : isA a b = true) : Ev (fun k => spec_l01Double.f k a b) (dbl (a, b)) := by
  obtain ⟨h1, h2, h3, h4⟩ := isA_bd h
  unfold spec_l01Double.f
  rw [wrap_in (x := 2 * a) (by omega) (by omega)]
  exact Ev.bind (ev_spec_Of h1 (by omega)) (Ev.now _)
theorem prod_in {a b : Int} (h0 : 0 ≤ a) (h1 : a ≤ 8191) (h2 : 0 ≤ b) (h3 : b ≤ 8191) : 0 ≤ a * b ∧ a * b ≤ 67092481 := by
  have x : 0 ≤ a * b := Int.mul_nonneg h0 h2
  have y : a * b ≤ 8191 * b := Int.mul_le_mul_of_nonneg_right h1 h2
  omega
theorem eq_pair {a b c d : Int} : (a == c && (b == d)) = decide ((a, b) = (c, d)) := by
  rw [Bool.eq_iff_iff]; simp
def letV (x t : Int × Int) : Int := if dbl x = t then 42 else if t.1 * x.2 < 2 * x.1 * t.2 ∧ 2 * x.1 * t.2 < t.1 * x.2 + x.2 * t.2 then 49 else 48
theorem ev_spec_letter {a b c d : Int} (h : isA a b = true) (k : isA c d = true) : Ev (fun n => spec_l02Letter.f n a b c d) (letV (a, b) (c, d)) := by
  obtain ⟨h1, h2, h3, h4, _⟩ := isA_iff.1 h
  obtain ⟨k1, k2, k3, k4, _⟩ := isA_iff.1 k
  have p1 := prod_in h3 (show a ≤ 8191 by omega) (show 0 ≤ d by omega) k2
  have p2 := prod_in k3 (show c ≤ 8191 by omega) (show 0 ≤ b by omega) h2
  have p3 := prod_in (show 0 ≤ b by omega) h2 (show 0 ≤ d by omega) k2
  have e1 : 2 * d * a = 2 * a * d := by grind
  have e1' : 2 * a * d = 2 * (a * d) := by grind
  have e2 : (c + d) * b = c * b + b * d := by grind
  unfold spec_l02Letter.f
  refine Ev.bind (ev_spec_Double h) ?_
  rw [wrap_in (x := 2 * d) (by omega) (by omega), wrap_in (x := c + d) (by omega) (by omega), e1, e2, wrap_in (x := 2 * a * d) (by omega) (by omega), wrap_in (x := c * b) (by omega) (by omega), wrap_in (x := c * b + b * d) (by omega) (by omega)]
  simp only [eq_pair, decide_eq_true_eq]
  unfold letV
  refine ev_if (fun z => ?_) (fun z => ?_)
  · rw [if_pos z]; exact Ev.now _
  · rw [if_neg z]
    by_cases u : c * b < 2 * a * d
    · by_cases v : 2 * a * d < c * b + b * d
      · simp only [gt_iff_lt, u, v, and_self, if_true]; exact Ev.now _
      · simp only [gt_iff_lt, u, v, and_false, if_true, if_false]; exact Ev.now _
    · simp only [gt_iff_lt, u, false_and, if_false]; exact Ev.now _
theorem ang_coprime {n e : Int} (he : 0 < e) (h : Int.gcd n e = 1) : ang n e = (n % e, e) := by
  have g : Int.gcd (n % e) e = 1 := by
    rw [Int.gcd_comm, ← h, Int.gcd_comm n e]
    have := Int.emod_add_mul_ediv n e
    conv => rhs; rw [← this]
    rw [Int.gcd_add_mul_left_right]
  unfold ang
  rw [g]
  simp
theorem dbl_even {n e : Int} (h : wide n (2 * e)) : dbl (n, 2 * e) = (n % e, e) := by
  obtain ⟨h1, h2, h3, h4⟩ := h
  have he : 0 < e := by omega
  unfold dbl
  rw [ang_scale (by omega) he]
  refine ang_coprime he ?_
  have d1 : (Int.gcd n e : Int) ∣ n := Int.gcd_dvd_left _ _
  have d2 : (Int.gcd n e : Int) ∣ 2 * e := Int.dvd_trans (Int.gcd_dvd_right _ _) (Int.dvd_mul_left _ _)
  have d3 : (Int.gcd n e : Int) ∣ (Int.gcd n (2 * e) : Int) := Int.dvd_coe_gcd d1 d2
  rw [h4] at d3
  have := Int.eq_one_of_dvd_one (by omega) d3
  show n.gcd e = 1
  omega
theorem dbl_odd {n d : Int} (h : wide n d) (hd : d % 2 = 1) : dbl (n, d) = (2 * n % d, d) := by
  obtain ⟨h1, h2, h3, h4⟩ := h
  unfold dbl
  refine ang_coprime (by omega) ?_
  have g2 : Int.gcd 2 d = 1 := by
    have d1 : (Int.gcd 2 d : Int) ∣ 2 := Int.gcd_dvd_left _ _
    have d2 : (Int.gcd 2 d : Int) ∣ d := Int.gcd_dvd_right _ _
    have d3 : (Int.gcd 2 d : Int) ∣ 1 := by
      have e : (1 : Int) = d - 2 * (d / 2) := by omega
      rw [e]
      exact Int.dvd_sub d2 (Int.dvd_mul_of_dvd_left d1)
    have := Int.eq_one_of_dvd_one (by omega) d3
    omega
  have k : Int.gcd (2 * n) d = 1 := by
    have d1 : (Int.gcd (2 * n) d : Int) ∣ d := Int.gcd_dvd_right _ _
    have d0 : (Int.gcd (2 * n) d : Int) ∣ 2 * n := Int.gcd_dvd_left _ _
    have c : Int.gcd (Int.gcd (2 * n) d : Int) 2 = 1 := by
      have e1 : (Int.gcd (Int.gcd (2 * n) d : Int) 2 : Int) ∣ d := Int.dvd_trans (Int.gcd_dvd_left _ _) d1
      have e2 : (Int.gcd (Int.gcd (2 * n) d : Int) 2 : Int) ∣ 2 := Int.gcd_dvd_right _ _
      have e3 := Int.dvd_coe_gcd e2 e1
      rw [g2] at e3
      have := Int.eq_one_of_dvd_one (by omega) e3
      omega
    have c' : Nat.Coprime (Int.gcd (2 * n) d) 2 := by simpa [Int.gcd, Nat.Coprime] using c
    have d0' : Int.gcd (2 * n) d ∣ 2 * n.natAbs := by
      have := Int.natAbs_dvd_natAbs.2 d0
      simpa [Int.natAbs_mul] using this
    have d2 : (Int.gcd (2 * n) d : Int) ∣ n := Int.ofNat_dvd_left.2 (c'.dvd_of_dvd_mul_left d0')
    have d3 := Int.dvd_coe_gcd d2 d1
    rw [h4] at d3
    have := Int.eq_one_of_dvd_one (by omega) d3
    omega
  exact k
def orbA (x : Int × Int) : Nat → Int × Int
  | 0 => x
  | n + 1 => dbl (orbA x n)
theorem dbl_wide {x : Int × Int} (h : wide x.1 x.2) : wide (dbl x).1 (dbl x).2 := ang_wide (by have := h.1; omega)
theorem orb_wide {x : Int × Int} (h : wide x.1 x.2) : ∀ n, wide (orbA x n).1 (orbA x n).2
  | 0 => h
  | n + 1 => dbl_wide (orb_wide h n)
theorem orb_isA {x : Int × Int} (h : isA x.1 x.2 = true) : ∀ n, isA (orbA x n).1 (orbA x n).2 = true
  | 0 => h
  | n + 1 => dbl_isA (orb_isA h n)
theorem orb_den {x : Int × Int} {p : Nat} {q : Int} (h : wide x.1 x.2) (hx : x.2 = 2 ^ p * q) (hq : q % 2 = 1) :
    ∀ i, (i ≤ p → (orbA x i).2 = 2 ^ (p - i) * q) ∧ (p ≤ i → (orbA x i).2 = q) := by
  intro i
  induction i with
  | zero =>
    refine ⟨fun _ => by simpa [orbA] using hx, fun hp => ?_⟩
    have : p = 0 := by omega
    subst this
    simpa [orbA] using hx
  | succ i ih =>
    have w := orb_wide h i
    refine ⟨fun hi => ?_, fun hi => ?_⟩
    · have e := ih.1 (by omega)
      have e2 : (2 : Int) ^ (p - i) * q = 2 * (2 ^ (p - (i + 1)) * q) := by
        rw [show p - i = (p - (i + 1)) + 1 by omega, Int.pow_succ]
        grind
      rw [e2] at e
      have d := dbl_even (n := (orbA x i).1) (e := 2 ^ (p - (i + 1)) * q) (by rw [← e]; exact w)
      rw [← e] at d
      show (dbl (orbA x i)).2 = _
      rw [show dbl (orbA x i) = dbl ((orbA x i).1, (orbA x i).2) from rfl, d]
    · by_cases hp : p ≤ i
      · have e := ih.2 hp
        have d := dbl_odd (n := (orbA x i).1) (d := (orbA x i).2) w (by rw [e]; exact hq)
        show (dbl (orbA x i)).2 = _
        rw [show dbl (orbA x i) = dbl ((orbA x i).1, (orbA x i).2) from rfl, d]
        exact e
      · have hpi : p = i + 1 := by omega
        have e := ih.1 (by omega)
        rw [show p - i = 1 by omega] at e
        have e2 : (orbA x i).2 = 2 * q := by rw [e]; grind
        have d := dbl_even (n := (orbA x i).1) (e := q) (by rw [← e2]; exact w)
        rw [← e2] at d
        show (dbl (orbA x i)).2 = _
        rw [show dbl (orbA x i) = dbl ((orbA x i).1, (orbA x i).2) from rfl, d]
def toS (x : Int × Int) : S59 := ⟨x.1, x.2⟩
def seg (x : Int × Int) (m : Nat) : List S59 := (List.range m).map fun i => toS (orbA x i)
theorem seg_length (x : Int × Int) (m : Nat) : (seg x m).length = m := by simp [seg]
theorem seg_succ (x : Int × Int) (m : Nat) : seg x (m + 1) = seg x m ++ [toS (orbA x m)] := by simp [seg, List.range_succ]
theorem seg_get (x : Int × Int) {m i : Nat} (h : i < m) : (seg x m)[i]'(by rw [seg_length]; exact h) = toS (orbA x i) := by simp [seg]
def orbGo (x : Int × Int) (p : Nat) : Nat → Nat → List S59 × Int × Bool
  | 0, _ => ([], 0, false)
  | f + 1, m => if p < m ∧ orbA x m = orbA x p then (seg x m, (p : Int), true) else if m = 64 then ([], 0, false) else orbGo x p f (m + 1)
end Go.Proofs.Ytccinmopfchjlaa.Q
end
section
namespace Go.Proofs.Ytccinmopfchjlaa.Q
open Go.RowKit Go.Proofs.YtccinmopfchjlaaW.PrintWords Go.Proofs.YtccinmopfchjlaaW.PrintLast Go.Proofs.YtccinmopfchjlaaW.Ext Go.Proofs.Ytccinmopfchjlaa.Ang
set_option linter.unusedVariables false
set_option linter.unusedSimpArgs false
theorem ev_spec_orbit {a b : Int} (h : isA a b = true) {p : Nat} {q : Int} (hx : b = 2 ^ p * q) (hq : q % 2 = 1) : Ev (fun k => spec_l01Orbit.f k a b) (orbGo (a, b) p 65 0) := by
  have hb := isA_bd h
  have hq0 : 0 < q := by
    rcases Int.lt_trichotomy q 0 with z | z | z
    · have := Int.mul_neg_of_pos_of_neg (show (0 : Int) < 2 ^ p from Int.pow_pos (by omega)) z
      omega
    · subst z; simp at hx; omega
    · exact z
  have loop : ∀ f m, m + f = 65 → m ≤ 64 → Ev (fun k => spec_l01Orbit.l1 k (p : Int) (seg (a, b) m) (orbA (a, b) m).1 (orbA (a, b) m).2) (orbGo (a, b) p f m) := by
    intro f
    induction f with
    | zero => intro m h1 h2; omega
    | succ f ih =>
      intro m h1 h2
      have j2 : ∀ c : Bool, c = decide (p < m ∧ orbA (a, b) m = orbA (a, b) p) → Ev (fun k => spec_l01Orbit.j2 k (p : Int) (seg (a, b) m) c (orbA (a, b) m).1 (orbA (a, b) m).2) (orbGo (a, b) p (f + 1) m) := by
        intro c hc
        subst hc
        unfold orbGo
        refine Ev.step (f := fun k => if decide (p < m ∧ orbA (a, b) m = orbA (a, b) p) = true then some (seg (a, b) m, (p : Int), true) else if ((seg (a, b) m).length : Int) = 64 then some ([], 0, false) else if (seg (a, b) m).length < 8796093022208 then (spec_l01Double.f k (orbA (a, b) m).1 (orbA (a, b) m).2).bind fun z => spec_l01Orbit.l1 k (p : Int) (seg (a, b) m ++ [⟨(orbA (a, b) m).1, (orbA (a, b) m).2⟩]) z.1 z.2 else none) (fun k => by rw [spec_l01Orbit.j2]) ?_
        simp only [seg_length, decide_eq_true_eq]
        by_cases z : p < m ∧ orbA (a, b) m = orbA (a, b) p
        · simp only [if_pos z]; exact Ev.now _
        · simp only [if_neg z]
          by_cases y : m = 64
          · subst y
            simp
            exact Ev.now _
          · simp only [if_neg y, if_neg (show ¬ ((m : Int) = 64) by omega), if_pos (show m < 8796093022208 by omega)]
            refine Ev.bind (ev_spec_Double (orb_isA (x := (a, b)) h m)) ?_
            have := ih (m + 1) (by omega) (by omega)
            rw [seg_succ] at this
            exact this
      refine Ev.step (f := fun k => if ((seg (a, b) m).length : Int) > (p : Int) then (if 0 ≤ (p : Int) then (if (p : Int) < ((seg (a, b) m).length : Int) then spec_l01Orbit.j2 k (p : Int) (seg (a, b) m) ((orbA (a, b) m).1 == (rd_T59 (seg (a, b) m) (p : Int)).f0 && ((orbA (a, b) m).2 == (rd_T59 (seg (a, b) m) (p : Int)).f1)) (orbA (a, b) m).1 (orbA (a, b) m).2 else none) else none) else spec_l01Orbit.j2 k (p : Int) (seg (a, b) m) false (orbA (a, b) m).1 (orbA (a, b) m).2) (fun k => by rw [spec_l01Orbit.l1]) ?_
      simp only [seg_length]
      by_cases z : p < m
      · simp only [if_pos (show (m : Int) > (p : Int) by omega), if_pos (show 0 ≤ (p : Int) by omega), if_pos (show (p : Int) < (m : Int) by omega)]
        have e : rd_T59 (seg (a, b) m) (p : Int) = toS (orbA (a, b) p) := by
          unfold rd_T59
          rw [Int.toNat_natCast, List.getD_eq_getElem?_getD, List.getElem?_eq_getElem (by rw [seg_length]; exact z), seg_get _ z]
          rfl
        rw [e]
        refine j2 _ ?_
        rw [Bool.eq_iff_iff]
        simp [toS, z, Prod.ext_iff]
      · simp only [if_neg (show ¬ ((m : Int) > (p : Int)) by omega)]
        exact j2 _ (by simp [z])
  have start := loop 65 0 (by omega) (by omega)
  have pre : ∀ (j : Nat) (c : Int), 0 ≤ c → c + j ≤ 1000000 → (2 : Int) ^ j * q ≤ 8191 → ∀ r, Ev (fun k => spec_l01Orbit.l1 k (c + j) [] a b) r → Ev (fun k => spec_l01Orbit.l0 k c (2 ^ j * q) a b) r := by
    intro j
    induction j with
    | zero =>
      intro c h0 h1 h2 r hr
      refine Ev.step (f := fun k => spec_l01Orbit.l1 k c [] a b) (fun k => ?_) (by simpa using hr)
      have e : Int.tmod ((2 : Int) ^ 0 * q) 2 = 1 := by
        rw [Int.tmod_eq_emod_of_nonneg (by simp; omega)]
        simpa using hq
      rw [spec_l01Orbit.l0, e, if_neg (by omega)]
    | succ j ih =>
      intro c h0 h1 h2 r hr
      have e2 : (2 : Int) ^ (j + 1) * q = 2 * (2 ^ j * q) := by rw [Int.pow_succ]; grind
      have pos : (0 : Int) < 2 ^ j * q := Int.mul_pos (Int.pow_pos (by omega)) hq0
      rw [e2] at h2 ⊢
      refine Ev.step (f := fun k => spec_l01Orbit.l0 k (c + 1) (2 ^ j * q) a b) (fun k => ?_) (ih (c + 1) (by omega) (by omega) (by omega) r (by rw [show c + 1 + (j : Int) = c + ((j + 1 : Nat) : Int) by omega]; exact hr))
      have e : Int.tmod (2 * ((2 : Int) ^ j * q)) 2 = 0 := by
        rw [Int.tmod_eq_emod_of_nonneg (by omega)]
        omega
      have f : Int.tdiv (2 * ((2 : Int) ^ j * q)) 2 = 2 ^ j * q := by
        rw [Int.tdiv_eq_ediv_of_nonneg (by omega)]
        omega
      rw [spec_l01Orbit.l0, e, if_pos rfl, f, wrap_in (x := c + 1) (by omega) (by omega), wrap_in (x := (2 : Int) ^ j * q) (by omega) (by omega)]
  unfold spec_l01Orbit.f
  have hp : (p : Int) ≤ 1000000 := by
    have l : (p : Int) < 2 ^ p := by
      have : p < 2 ^ p := Nat.lt_two_pow_self
      exact_mod_cast this
    have : (2 : Int) ^ p * 1 ≤ 2 ^ p * q := Int.mul_le_mul_of_nonneg_left (by omega) (Int.pow_nonneg (by omega))
    omega
  have := pre p 0 (by omega) (by omega) (by omega) (orbGo (a, b) p 65 0) (by simpa [seg, orbA] using start)
  rw [← hx] at this
  exact this
def bytesL (c : List Int) : Prop := c.length ≤ 4096 ∧ ∀ x ∈ c, 0 ≤ x ∧ x ≤ 255
def atL (a : Int) : Prop := 0 ≤ a ∧ a ≤ 4096
theorem next_val {c : List Int} (hc : bytesL c) {a : Int} (h n : Int) (ha : atL a) (hn : n ≤ 1000000) :
    ∃ v a' h', spec_l01Next.f c a h n = some (v, a', h') ∧ 0 ≤ v ∧ (1 ≤ n → v < n) ∧ atL a' := by
  obtain ⟨c1, c2⟩ := hc
  obtain ⟨a1, a2⟩ := ha
  unfold spec_l01Next.f
  by_cases h1 : n < 1
  · rw [if_pos h1]; exact ⟨0, a, h, rfl, by omega, fun z => by omega, a1, a2⟩
  · rw [if_neg h1]
    have hU : 0 ≤ IntKind.u64.wrap ((IntKind.u64.wrap (h * 6364136223846793005)) + 1442695040888963407) ∧ IntKind.u64.wrap ((IntKind.u64.wrap (h * 6364136223846793005)) + 1442695040888963407) < 18446744073709551616 := by
      rw [IntKind.wrap_u64]; omega
    generalize IntKind.u64.wrap ((IntKind.u64.wrap (h * 6364136223846793005)) + 1442695040888963407) = U at *
    obtain ⟨m, rfl⟩ := Int.eq_ofNat_of_zero_le hU.1
    have e : Go.bits .and .u64 ((m : Int) / 8589934592) 16777215 = ((m / 8589934592 &&& 16777215 : Nat) : Int) := by
      have q := Go.bits_and_u64_nat (m / 8589934592) 16777215 (by omega) (by omega)
      rw [← q]
      rfl
    have hle := Nat.and_le_right (n := m / 8589934592) (m := 16777215)
    rw [e]
    generalize (m / 8589934592 &&& 16777215) = y at *
    rw [wrS (x := (y : Int)) (by omega) (by omega)]
    by_cases h2 : a < (c.length : Int)
    · obtain ⟨i, rfl⟩ := Int.eq_ofNat_of_zero_le a1
      have hi : i < c.length := by omega
      have hb := c2 c[i] (List.getElem_mem hi)
      have er : rd c (i : Int) = c[i] := by simp [rd, hi]
      rw [if_pos h2, if_pos a1, if_neg (by omega), er, wrS (x := c[i]) (by omega) (by omega), wrS (x := (y : Int) + c[i]) (by omega) (by omega), wrS (x := (i : Int) + 1) (by omega) (by omega)]
      exact ⟨_, _, _, rfl, Int.tmod_nonneg _ (by omega), fun _ => Int.tmod_lt_of_pos _ (by omega), by omega, by omega⟩
    · rw [if_neg h2, if_neg (by omega)]
      exact ⟨_, _, _, rfl, Int.tmod_nonneg _ (by omega), fun _ => Int.tmod_lt_of_pos _ (by omega), a1, a2⟩
theorem rd_mem {l : List Int} {v : Int} (h0 : 0 ≤ v) (h1 : v < (l.length : Int)) : rd l v ∈ l := by
  obtain ⟨i, rfl⟩ := Int.eq_ofNat_of_zero_le h0
  have hi : i < l.length := by omega
  have er : rd l (i : Int) = l[i] := by simp [rd, hi]
  rw [er]
  exact List.getElem_mem hi
theorem pick_val {c : List Int} (hc : bytesL c) {a : Int} (h : Int) (ha : atL a) (l : List Int) (h1 : 1 ≤ l.length) (h2 : l.length ≤ 100) :
    ∃ v a' h', spec_l01Pick.f c a h l = some (v, a', h') ∧ v ∈ l ∧ atL a' := by
  obtain ⟨v, a', h', e, v0, v1, hs⟩ := next_val hc h (l.length : Int) ha (by omega)
  have v2 := v1 (by omega)
  unfold spec_l01Pick.f
  rw [e, Option.bind_some, if_pos v0, if_pos v2]
  exact ⟨_, _, _, rfl, rd_mem v0 v2, hs⟩
theorem son_size (L : List Int) : (strOfNums L).size = L.length := by
  rw [Lib.size_eq]
  simp [strOfNums]
theorem ev_star1 {c : List Int} (hc : bytesL c) {a : Int} (h : Int) (ha : atL a) :
    ∃ p q a' h', Ev (fun k => spec_l02Star1.f k c a h) (p, q, a', h') ∧ p.size + q.size ≤ 15 ∧ atL a' := by
  obtain ⟨v, a', h', e, hv, hs⟩ := pick_val hc h ha [1, 2, 3, 4, 5, 6, 7, 9] (by decide) (by decide)
  have hv2 : 1 ≤ v ∧ v ≤ 9 := by
    simp only [List.mem_cons, List.not_mem_nil, or_false] at hv
    omega
  obtain ⟨n, rfl⟩ := Int.eq_ofNat_of_zero_le (show 0 ≤ v by omega)
  have key : ∀ d i (acc : List Int) (a h : Int), i + d = n - 1 → acc.length = i → atL a → ∃ p q a' h', Ev (fun k => spec_l02Star1.l0 k (n : Int) acc (i : Int) c a h) (p, q, a', h') ∧ p.size + q.size ≤ 15 ∧ atL a' := by
    intro d
    induction d with
    | zero =>
      intro i acc a h hi hl ha
      by_cases h1 : (n : Int) > 1
      · refine ⟨⟨#[]⟩, strOfNums (acc.set 0 49 ++ [42]), a, h, Ev.step (f := fun _ => some (⟨#[]⟩, strOfNums (acc.set 0 49 ++ [42]), a, h)) (fun k => ?_) (Ev.now _), ?_, ha⟩
        · rw [spec_l02Star1.l0, wrS (x := (n : Int) - 1) (by omega) (by omega), if_neg (by omega), if_pos h1, if_pos (by omega), Option.bind_some, if_pos (by rw [List.length_set]; omega)]
          rfl
        · rw [son_size, show (⟨#[]⟩ : ByteArray).size = 0 from rfl]; simp; omega
      · refine ⟨⟨#[]⟩, strOfNums (acc ++ [42]), a, h, Ev.step (f := fun _ => some (⟨#[]⟩, strOfNums (acc ++ [42]), a, h)) (fun k => ?_) (Ev.now _), ?_, ha⟩
        · rw [spec_l02Star1.l0, wrS (x := (n : Int) - 1) (by omega) (by omega), if_neg (by omega), if_neg h1, if_pos (by omega)]
        · rw [son_size, show (⟨#[]⟩ : ByteArray).size = 0 from rfl]; simp; omega
    | succ d ih =>
      intro i acc a h hi hl ha
      obtain ⟨v, a', h', e, v0, v1, hs⟩ := next_val hc h 2 ha (by omega)
      obtain ⟨p, q, a2, h2, r1, r2⟩ := ih (i + 1) (acc ++ [(wrap64 (48 + v)) % 256]) a' h' (by omega) (by simp; omega) hs
      refine ⟨p, q, a2, h2, Ev.step (fun k => ?_) r1, r2⟩
      rw [spec_l02Star1.l0, wrS (x := (n : Int) - 1) (by omega) (by omega), if_pos (by omega), e, Option.bind_some, if_pos (by omega), wrS (x := (i : Int) + 1) (by omega) (by omega)]
      rfl
  obtain ⟨p, q, a2, h2, r1, r2⟩ := key (n - 1) 0 [] a' h' (by omega) rfl hs
  refine ⟨p, q, a2, h2, ?_, r2⟩
  unfold spec_l02Star1.f
  simp only [e, Option.bind_some]
  exact r1
def goodD (b : Int) : Prop := ∃ D ∈ ([1, 3, 7, 15, 31, 63, 5, 9, 11, 13, 17, 21] : List Int), ∃ j ∈ ([1, 2, 4, 8] : List Int), b ∣ D * j
theorem good_dec : ∀ b : Fin 505, ∀ D ∈ ([1, 3, 7, 15, 31, 63, 5, 9, 11, 13, 17, 21] : List Nat), ∀ j ∈ ([1, 2, 4, 8] : List Nat), 0 < b.val → (D * j) % b.val = 0 →
    ((List.range 4).any fun p => (b.val % 2 ^ p == 0) && ((b.val / 2 ^ p) % 2 == 1) && (List.range 13).any fun t => (1 ≤ t) && (2 ^ t % (b.val / 2 ^ p) == 1 % (b.val / 2 ^ p))) = true := by decide +kernel
theorem good_parts {b : Int} (hb : 0 < b) (h : goodD b) : ∃ (p : Nat) (q : Int) (t : Nat), b = 2 ^ p * q ∧ q % 2 = 1 ∧ 0 < q ∧ p ≤ 3 ∧ 1 ≤ t ∧ t ≤ 12 ∧ (2 ^ t : Int) % q = 1 % q := by
  obtain ⟨D, hD, j, hj, hd⟩ := h
  obtain ⟨m, rfl⟩ := Int.eq_ofNat_of_zero_le (show 0 ≤ b by omega)
  have hD' : ∃ d : Nat, D = (d : Int) ∧ d ∈ ([1, 3, 7, 15, 31, 63, 5, 9, 11, 13, 17, 21] : List Nat) := by
    simp only [List.mem_cons, List.not_mem_nil, or_false] at hD
    refine ⟨D.toNat, by omega, ?_⟩
    simp only [List.mem_cons, List.not_mem_nil, or_false]
    omega
  have hj' : ∃ d : Nat, j = (d : Int) ∧ d ∈ ([1, 2, 4, 8] : List Nat) := by
    simp only [List.mem_cons, List.not_mem_nil, or_false] at hj
    refine ⟨j.toNat, by omega, ?_⟩
    simp only [List.mem_cons, List.not_mem_nil, or_false]
    omega
  obtain ⟨d, rfl, hd1⟩ := hD'
  obtain ⟨i, rfl, hi1⟩ := hj'
  have hdv : m ∣ d * i := by
    have : (m : Int) ∣ ((d * i : Nat) : Int) := by simpa using hd
    exact Int.natCast_dvd_natCast.1 this
  have hle : m ≤ 504 := by
    have h1 : d * i ≤ 63 * 8 := by
      refine Nat.mul_le_mul ?_ ?_
      · simp only [List.mem_cons, List.not_mem_nil, or_false] at hd1; omega
      · simp only [List.mem_cons, List.not_mem_nil, or_false] at hi1; omega
    have h2 : 0 < d * i := by
      refine Nat.mul_pos ?_ ?_
      · simp only [List.mem_cons, List.not_mem_nil, or_false] at hd1; omega
      · simp only [List.mem_cons, List.not_mem_nil, or_false] at hi1; omega
    have := Nat.le_of_dvd h2 hdv
    omega
  have key := good_dec ⟨m, by omega⟩ d hd1 i hi1 (by show 0 < m; omega) (Nat.mod_eq_zero_of_dvd hdv)
  simp only [List.any_eq_true, Bool.and_eq_true, beq_iff_eq, List.mem_range, decide_eq_true_eq] at key
  obtain ⟨p, hp, ⟨h1, h2⟩, t, ht, h3, h4⟩ := key
  have h1' : m % 2 ^ p = 0 := h1
  have h2' : m / 2 ^ p % 2 = 1 := h2
  have h4' : 2 ^ t % (m / 2 ^ p) = 1 % (m / 2 ^ p) := h4
  have hq := Nat.div_mul_cancel (Nat.dvd_of_mod_eq_zero h1')
  clear h1 h2 h4
  generalize m / 2 ^ p = Q at h2' h4' hq
  refine ⟨p, (Q : Int), t, ?_, by omega, by omega, by omega, h3, by omega, ?_⟩
  · rw [← hq, Int.natCast_mul, Int.mul_comm]
    simp
  · have e : ((2 ^ t % Q : Nat) : Int) = ((1 % Q : Nat) : Int) := by rw [h4']
    simpa using e
theorem orb_per {x : Int × Int} {p : Nat} {q : Int} (h : wide x.1 x.2) (hx : x.2 = 2 ^ p * q) (hq : q % 2 = 1) (hq0 : 0 < q) {t : Nat} (ht : (2 ^ t : Int) % q = 1 % q) : orbA x (p + t) = orbA x p := by
  have den := fun s => (orb_den h hx hq (p + s)).2 (by omega)
  have num : ∀ s, (orbA x (p + s)).1 = 2 ^ s * (orbA x p).1 % q := by
    intro s
    induction s with
    | zero =>
      have w := orb_wide h p
      have d := den 0
      rw [Nat.add_zero] at d ⊢
      rw [d] at w
      rw [Int.pow_zero, Int.one_mul, Int.emod_eq_of_lt w.2.1 w.2.2.1]
    | succ s ih =>
      have w := orb_wide h (p + s)
      rw [den s] at w
      have e : orbA x (p + (s + 1)) = dbl ((orbA x (p + s)).1, q) := by
        show dbl (orbA x (p + s)) = _
        rw [show orbA x (p + s) = ((orbA x (p + s)).1, (orbA x (p + s)).2) from rfl, den s]
      rw [e, dbl_odd w hq, ih]
      show 2 * (2 ^ s * (orbA x p).1 % q) % q = _
      rw [Int.mul_emod, Int.emod_emod_of_dvd _ (Int.dvd_refl q), ← Int.mul_emod, Int.pow_succ]
      congr 1
      grind
  have w := orb_wide h p
  have d := den 0
  rw [Nat.add_zero] at d
  rw [d] at w
  refine Prod.ext ?_ ((den t).trans d.symm)
  rw [num t, Int.mul_emod, ht, ← Int.mul_emod, Int.one_mul, Int.emod_eq_of_lt w.2.1 w.2.2.1]
theorem orbGo_le {x : Int × Int} {p t : Nat} (ht : 1 ≤ t) (he : orbA x (p + t) = orbA x p) : ∀ f m, m ≤ p + t → (orbGo x p f m).1.length ≤ p + t := by
  intro f
  induction f with
  | zero => intro m _; simp [orbGo]
  | succ f ih =>
    intro m hm
    unfold orbGo
    split
    · rw [seg_length]; exact hm
    · rename_i z
      split
      · simp
      · refine ih (m + 1) ?_
        by_cases q : m = p + t
        · subst q; exact absurd ⟨by omega, he⟩ z
        · omega
theorem orbGo_ok {x : Int × Int} {p : Nat} : ∀ f m, (orbGo x p f m).2.2 = true → ∃ n : Nat, orbGo x p f m = (seg x n, (p : Int), true) ∧ p < n := by
  intro f
  induction f with
  | zero => intro m h; simp [orbGo] at h
  | succ f ih =>
    intro m h
    unfold orbGo at h ⊢
    split
    · rename_i z; exact ⟨m, rfl, z.1⟩
    · rename_i z
      rw [if_neg z] at h
      split
      · rename_i y; rw [if_pos y] at h; cases h
      · rename_i y; rw [if_neg y] at h; exact ih (m + 1) h
theorem ev_angle {c : List Int} (hc : bytesL c) {a : Int} (h : Int) (ha : atL a) :
    ∃ n d a' h', Ev (fun k => spec_l01Draw.f k c a h) (n, d, a', h') ∧ isA n d = true ∧ goodD d ∧ atL a' := by
  obtain ⟨D, a1, h1, e1, hD, s1⟩ := pick_val hc h ha [1, 3, 7, 15, 31, 63, 5, 9, 11, 13, 17, 21] (by decide) (by decide)
  have hD2 : 1 ≤ D ∧ D ≤ 63 := by
    simp only [List.mem_cons, List.not_mem_nil, or_false] at hD
    omega
  obtain ⟨v, a2, h2, e2, v0, v1, s2⟩ := next_val hc h1 5 s1 (by omega)
  have fin : ∀ (j : Int) (a h : Int), j ∈ ([1, 2, 4, 8] : List Int) → atL a → ∃ n d a' h', Ev (fun k => (spec_l01Next.f c a h (D * j)).bind fun b => (spec_l01Of.f k b.1 (D * j)).bind fun z => some (z.1, z.2, b.2.1, b.2.2)) (n, d, a', h') ∧ isA n d = true ∧ goodD d ∧ atL a' := by
    intro j a h hj s
    have hj2 : 1 ≤ j ∧ j ≤ 8 := by
      simp only [List.mem_cons, List.not_mem_nil, or_false] at hj
      omega
    have q1 : 0 < D * j := Int.mul_pos (by omega) (by omega)
    have q2 : D * j ≤ 63 * j := Int.mul_le_mul_of_nonneg_right hD2.2 (by omega)
    obtain ⟨v, a', h', e, v0, v1, s'⟩ := next_val hc h (D * j) s (by omega)
    refine ⟨(ang v (D * j)).1, (ang v (D * j)).2, a', h', ?_, ang_isA q1 (by omega), ⟨D, hD, j, hj, ?_⟩, s'⟩
    · simp only [e, Option.bind_some]
      exact Ev.bind (ev_spec_Of q1 (by omega)) (Ev.now _)
    · obtain ⟨g, g0, g1, g2⟩ := ang_mul (n := v) q1
      exact ⟨g, g2.symm⟩
  unfold spec_l01Draw.f
  simp only [e1, e2, Option.bind_some]
  by_cases z0 : v = 0
  · simp only [if_pos z0]
    obtain ⟨j, a3, h3, e3, hj, s3⟩ := pick_val hc h2 s2 [2, 4, 8] (by decide) (by decide)
    have hj2 : j ∈ ([1, 2, 4, 8] : List Int) := by simp only [List.mem_cons, List.not_mem_nil, or_false] at hj ⊢; omega
    have hj3 : 1 ≤ j ∧ j ≤ 8 := by
      simp only [List.mem_cons, List.not_mem_nil, or_false] at hj
      omega
    have q2 : D * j ≤ 63 * j := Int.mul_le_mul_of_nonneg_right hD2.2 (by omega)
    have q1 : 0 < D * j := Int.mul_pos (by omega) (by omega)
    simp only [e3, Option.bind_some, wrS (x := D * j) (by omega) (by omega)]
    exact fin j a3 h3 hj2 s3
  · simp only [if_neg z0]
    by_cases z1 : v = 1
    · simp only [if_pos z1, wrS (x := D * 2) (by omega) (by omega)]
      exact fin 2 a2 h2 (by simp) s2
    · simp only [if_neg z1]
      have q := fin 1 a2 h2 (by simp) s2
      rw [Int.mul_one] at q
      exact q
theorem rd_segS {x : Int × Int} {m i : Nat} (h : i < m) : rd_T59 (seg x m) (i : Int) = toS (orbA x i) := by
  unfold rd_T59
  rw [Int.toNat_natCast, List.getD_eq_getElem?_getD, List.getElem?_eq_getElem (by rw [seg_length]; exact h), seg_get _ h]
  rfl
theorem ev_itin {n d t1 t2 : Int} (hx : isA n d = true) (hg : goodD d) (ht : isA t1 t2 = true) :
    ∃ (p q : ByteArray) (ok : Bool), Ev (fun k => spec_l02Itinerary.f k n d t1 t2) (p, q, ok) ∧ (ok = true → p.size + q.size ≤ 15) := by
  have hd := (isA_bd hx).1
  obtain ⟨pp, q, t, e1, e2, e3, e4, e5, e6, e7⟩ := good_parts hd hg
  have hs := ev_spec_orbit hx e1 e2
  have per := orb_per (x := (n, d)) (isA_wide hx) e1 e2 e3 e7
  have le := orbGo_le (x := (n, d)) e5 per 65 0 (by omega)
  have ok := orbGo_ok (x := (n, d)) (p := pp) 65 0
  generalize orbGo (n, d) pp 65 0 = o at hs le ok
  obtain ⟨o1, o2, o3⟩ := o
  cases o3 with
  | false =>
    refine ⟨⟨#[]⟩, ⟨#[]⟩, false, ?_, fun z => by cases z⟩
    unfold spec_l02Itinerary.f
    refine Ev.bind hs ?_
    simp only [Bool.false_eq_true, if_false]
    exact Ev.now _
  | true =>
    obtain ⟨m, em, hm⟩ := ok rfl
    simp only [Prod.mk.injEq, and_true] at em
    obtain ⟨rfl, rfl⟩ := em
    simp only [seg_length] at le
    have key : ∀ f i (acc : List Int), i + f = m → acc.length = i → ∃ c : ByteArray × ByteArray, Ev (fun k => spec_l02Itinerary.l0 k (seg (n, d) m) (pp : Int) acc (i : Int) t1 t2) (c.1, c.2, true) ∧ c.1.size + c.2.size ≤ 15 := by
      intro f
      induction f with
      | zero =>
        intro i acc hi hl
        have z1 : (strOfNums (acc.take pp)).size = pp := by rw [son_size, List.length_take]; omega
        have z2 : (strOfNums (acc.drop pp)).size = m - pp := by rw [son_size, List.length_drop]; omega
        obtain ⟨c, c1, _, c3, c4, c5⟩ := both_canon (strOfNums (acc.take pp)) (strOfNums (acc.drop pp)) (by omega) (by omega)
        refine ⟨c, Ev.step (f := fun k => (spec_l01Canonical.f k (strOfNums (acc.take pp)) (strOfNums (acc.drop pp))).bind fun b => some (b.1, b.2, true)) (fun k => ?_) (Ev.bind c1 (Ev.now _)), by omega⟩
        rw [spec_l02Itinerary.l0, if_neg (by rw [seg_length]; omega), if_pos (by omega), if_pos (by omega), Int.toNat_natCast]
      | succ f ih =>
        intro i acc hi hl
        have hA := orb_isA (x := (n, d)) hx i
        obtain ⟨c, c1, c2⟩ := ih (i + 1) (acc ++ [letV (orbA (n, d) i) (t1, t2)]) (by omega) (by simp; omega)
        refine ⟨c, Ev.step (f := fun k => (spec_l02Letter.f k (orbA (n, d) i).1 (orbA (n, d) i).2 t1 t2).bind fun t => spec_l02Itinerary.l0 k (seg (n, d) m) (pp : Int) (acc ++ [t]) ((i + 1 : Nat) : Int) t1 t2) (fun k => ?_) (Ev.bind (ev_spec_letter hA ht) c1), c2⟩
        rw [spec_l02Itinerary.l0, if_pos (by rw [seg_length]; omega), if_pos (by omega), rd_segS (by omega), wrS (x := (i : Int) + 1) (by omega) (by omega)]
        simp only [if_pos (show acc.length < 140737488355328 by omega)]
        rfl
    obtain ⟨c, c1, c2⟩ := key m 0 [] (by omega) rfl
    refine ⟨c.1, c.2, true, ?_, fun _ => c2⟩
    unfold spec_l02Itinerary.f
    refine Ev.bind hs ?_
    simp only [if_true]
    exact c1
theorem ev_l02j2 {c : List Int} (hc : bytesL c) {a : Int} (h : Int) (ha : atL a) (p q : ByteArray) (hpq : p.size + q.size ≤ 15) :
    ∃ p' q' a' h', Ev (fun k => spec_l02Draw.j2 k c a h p q) (p', q', a', h') ∧ p'.size + q'.size ≤ 40 ∧ atL a' := by
  obtain ⟨v, a', h', e, v0, v1, s⟩ := next_val hc h 40 ha (by omega)
  have st : ∀ r, Ev (fun k => if v = 0 then (some (p, (⟨#[]⟩ : ByteArray), a', h')) else (if v = 1 then (if p.size + q.size ≤ 9223372036854775807 then (some (p ++ q, q, a', h')) else (none)) else (if v = 2 then (if q.size + q.size ≤ 9223372036854775807 then (some (p, q ++ q, a', h')) else (none)) else (if v = 3 then (if 1 + q.size ≤ 9223372036854775807 then (some (p, (⟨#[50]⟩ : ByteArray) ++ q, a', h')) else (none)) else (some (p, q, a', h')))))) r → Ev (fun k => spec_l02Draw.j2 k c a h p q) r := fun r hr => Ev.step (fun k => by rw [spec_l02Draw.j2, e, Option.bind_some]) hr
  have e0 : (⟨#[]⟩ : ByteArray).size = 0 := rfl
  have e50 : (⟨#[50]⟩ : ByteArray).size = 1 := rfl
  by_cases z0 : v = 0
  · refine ⟨p, ⟨#[]⟩, a', h', st _ ?_, by rw [e0]; omega, s⟩
    simp only [if_pos z0]; exact Ev.now _
  · by_cases z1 : v = 1
    · refine ⟨p ++ q, q, a', h', st _ ?_, by rw [ByteArray.size_append]; omega, s⟩
      simp only [if_neg z0, if_pos z1, if_pos (show p.size + q.size ≤ 9223372036854775807 by omega)]; exact Ev.now _
    · by_cases z2 : v = 2
      · refine ⟨p, q ++ q, a', h', st _ ?_, by rw [ByteArray.size_append]; omega, s⟩
        simp only [if_neg z0, if_neg z1, if_pos z2, if_pos (show q.size + q.size ≤ 9223372036854775807 by omega)]; exact Ev.now _
      · by_cases z3 : v = 3
        · refine ⟨p, (⟨#[50]⟩ : ByteArray) ++ q, a', h', st _ ?_, by rw [ByteArray.size_append, e50]; omega, s⟩
          simp only [if_neg z0, if_neg z1, if_neg z2, if_pos z3, if_pos (show 1 + q.size ≤ 9223372036854775807 by omega)]; exact Ev.now _
        · refine ⟨p, q, a', h', st _ ?_, by omega, s⟩
          simp only [if_neg z0, if_neg z1, if_neg z2, if_neg z3]; exact Ev.now _
theorem rdOf5 (v : Int) (h0 : 0 ≤ v) (h1 : v < 5) : (rdOf ByteArray.empty [(⟨#[48]⟩ : ByteArray), (⟨#[49]⟩ : ByteArray), (⟨#[48]⟩ : ByteArray), (⟨#[49]⟩ : ByteArray), (⟨#[42]⟩ : ByteArray)] v).size = 1 := by
  have : v = 0 ∨ v = 1 ∨ v = 2 ∨ v = 3 ∨ v = 4 := by omega
  rcases this with rfl | rfl | rfl | rfl | rfl <;> rfl
theorem rdOf3 (v : Int) (h0 : 0 ≤ v) (h1 : v < 3) : (rdOf ByteArray.empty [(⟨#[48]⟩ : ByteArray), (⟨#[49]⟩ : ByteArray), (⟨#[42]⟩ : ByteArray)] v).size = 1 := by
  have : v = 0 ∨ v = 1 ∨ v = 2 := by omega
  rcases this with rfl | rfl | rfl <;> rfl
theorem ev_l02l1 {c : List Int} (hc : bytesL c) : ∀ (n : Nat) (a h : Int) (p q : ByteArray), atL a → p.size ≤ 3 → 1 ≤ q.size → q.size + n ≤ 6 → ∃ p' q' a' h', Ev (fun k => spec_l02Draw.l1 k p q (n : Int) c a h) (p', q', a', h') ∧ p'.size + q'.size ≤ 40 ∧ atL a' := by
  intro n
  induction n with
  | zero =>
    intro a h p q ha hp hq hn
    obtain ⟨z, z1, _, z3, z4, z5⟩ := both_canon p q hq (by omega)
    obtain ⟨p', q', a', h', r1, r2⟩ := ev_l02j2 hc h ha z.1 z.2 (by omega)
    exact ⟨p', q', a', h', Ev.step (f := fun k => (spec_l01Canonical.f k p q).bind fun b => spec_l02Draw.j2 k c a h b.1 b.2) (fun k => by rw [spec_l02Draw.l1, if_neg (by omega)]) (Ev.bind z1 r1), r2⟩
  | succ n ih =>
    intro a h p q ha hp hq hn
    obtain ⟨v, a1, h1, e, v0, v1, s⟩ := next_val hc h 5 ha (by omega)
    have hz := rdOf5 v v0 (v1 (by omega))
    obtain ⟨p', q', a', h', r1, r2⟩ := ih a1 h1 p (q ++ rdOf ByteArray.empty [(⟨#[48]⟩ : ByteArray), (⟨#[49]⟩ : ByteArray), (⟨#[48]⟩ : ByteArray), (⟨#[49]⟩ : ByteArray), (⟨#[42]⟩ : ByteArray)] v) s hp (by rw [ByteArray.size_append]; omega) (by rw [ByteArray.size_append]; omega)
    refine ⟨p', q', a', h', Ev.step (fun k => ?_) r1, r2⟩
    have h5 := v1 (by omega)
    rw [spec_l02Draw.l1, if_pos (by omega), Option.bind_some, e, Option.bind_some, if_pos v0, if_pos (by simpa using h5), if_pos (by rw [hz]; omega), wrS (x := ((n + 1 : Nat) : Int) - 1) (by omega) (by omega), show ((n + 1 : Nat) : Int) - 1 = (n : Int) by omega]
theorem ev_l02l0 {c : List Int} (hc : bytesL c) : ∀ (n : Nat) (a h : Int) (p q : ByteArray), atL a → p.size + n ≤ 3 → q.size = 1 → ∃ p' q' a' h', Ev (fun k => spec_l02Draw.l0 k p q (n : Int) c a h) (p', q', a', h') ∧ p'.size + q'.size ≤ 40 ∧ atL a' := by
  intro n
  induction n with
  | zero =>
    intro a h p q ha hp hq
    obtain ⟨v, a1, h1, e, v0, v1, s⟩ := next_val hc h 6 ha (by omega)
    obtain ⟨m, rfl⟩ := Int.eq_ofNat_of_zero_le v0
    have v2 := v1 (by omega)
    obtain ⟨p', q', a', h', r1, r2⟩ := ev_l02l1 hc m a1 h1 p q s (by omega) (by omega) (by omega)
    exact ⟨p', q', a', h', Ev.step (fun k => by rw [spec_l02Draw.l0, if_neg (by omega), e, Option.bind_some]) r1, r2⟩
  | succ n ih =>
    intro a h p q ha hp hq
    obtain ⟨v, a1, h1, e, v0, v1, s⟩ := next_val hc h 5 ha (by omega)
    have h5 := v1 (by omega)
    have hz := rdOf5 v v0 h5
    obtain ⟨p', q', a', h', r1, r2⟩ := ih a1 h1 (p ++ rdOf ByteArray.empty [(⟨#[48]⟩ : ByteArray), (⟨#[49]⟩ : ByteArray), (⟨#[48]⟩ : ByteArray), (⟨#[49]⟩ : ByteArray), (⟨#[42]⟩ : ByteArray)] v) q s (by rw [ByteArray.size_append]; omega) hq
    refine ⟨p', q', a', h', Ev.step (fun k => ?_) r1, r2⟩
    rw [spec_l02Draw.l0, if_pos (by omega), Option.bind_some, e, Option.bind_some, if_pos v0, if_pos (by simpa using h5), if_pos (by rw [hz]; omega), wrS (x := ((n + 1 : Nat) : Int) - 1) (by omega) (by omega), show ((n + 1 : Nat) : Int) - 1 = (n : Int) by omega]
theorem ev_l02 {c : List Int} (hc : bytesL c) {a : Int} (h : Int) (ha : atL a) :
    ∃ p q a' h', Ev (fun k => spec_l02Draw.f k c a h) (p, q, a', h') ∧ p.size + q.size ≤ 40 ∧ atL a' := by
  obtain ⟨v, a1, h1, e, v0, v1, s⟩ := next_val hc h 4 ha (by omega)
  unfold spec_l02Draw.f
  simp only [e, Option.bind_some]
  have star : ∀ (a h : Int), atL a → ∃ p q a' h', Ev (fun k => (spec_l02Star1.f k c a h).bind fun b => spec_l02Draw.j2 k c b.2.2.1 b.2.2.2 b.1 b.2.1) (p, q, a', h') ∧ p.size + q.size ≤ 40 ∧ atL a' := by
    intro a h ha
    obtain ⟨p, q, a2, h2, r1, r2, r3⟩ := ev_star1 hc h ha
    obtain ⟨p', q', a', h', t1, t2⟩ := ev_l02j2 hc h2 r3 p q r2
    exact ⟨p', q', a', h', Ev.bind r1 t1, t2⟩
  have itin : ∀ (n d t1 t2 a h : Int), isA n d = true → goodD d → isA t1 t2 = true → atL a → ∃ p q a' h', Ev (fun k => (spec_l02Itinerary.f k n d t1 t2).bind fun b => if b.2.2 = true then spec_l02Draw.j2 k c a h b.1 b.2.1 else (spec_l02Star1.f k c a h).bind fun b => spec_l02Draw.j2 k c b.2.2.1 b.2.2.2 b.1 b.2.1) (p, q, a', h') ∧ p.size + q.size ≤ 40 ∧ atL a' := by
    intro n d t1 t2 a h hx hg ht ha
    obtain ⟨p, q, ok, r1, r2⟩ := ev_itin hx hg ht
    cases ok with
    | true =>
      obtain ⟨p', q', a', h', w1, w2⟩ := ev_l02j2 hc h ha p q (r2 rfl)
      exact ⟨p', q', a', h', Ev.bind r1 (by simpa using w1), w2⟩
    | false =>
      obtain ⟨p', q', a', h', w1, w2⟩ := star a h ha
      exact ⟨p', q', a', h', Ev.bind r1 (by simpa using w1), w2⟩
  by_cases z0 : v = 0
  · simp only [if_pos z0]
    exact star a1 h1 s
  · simp only [if_neg z0]
    by_cases z1 : v = 1
    · simp only [if_pos z1]
      obtain ⟨t1, t2, a2, h2, r1, r2, r3, r4⟩ := ev_angle hc h1 s
      obtain ⟨n, d, a3, h3, w1, w2, w3, w4⟩ := ev_angle hc h2 r4
      obtain ⟨p', q', a', h', u1, u2⟩ := itin n d t1 t2 a3 h3 w2 w3 r2 w4
      exact ⟨p', q', a', h', Ev.bind r1 (Ev.bind w1 u1), u2⟩
    · simp only [if_neg z1]
      by_cases z2 : v = 2
      · simp only [if_pos z2]
        obtain ⟨n, d, a3, h3, w1, w2, w3, w4⟩ := ev_angle hc h1 s
        obtain ⟨p', q', a', h', u1, u2⟩ := itin n d n d a3 h3 w2 w3 w2 w4
        exact ⟨p', q', a', h', Ev.bind w1 u1, u2⟩
      · simp only [if_neg z2]
        obtain ⟨v2, a2, h2, e2, x0, x1, s2⟩ := next_val hc h1 3 s (by omega)
        have x3 := x1 (by omega)
        obtain ⟨v3, a3, h3, e3, y0, y1, s3⟩ := next_val hc h2 4 s2 (by omega)
        obtain ⟨m, rfl⟩ := Int.eq_ofNat_of_zero_le y0
        have y3 := y1 (by omega)
        obtain ⟨p', q', a', h', u1, u2⟩ := ev_l02l0 hc m a3 h3 (⟨#[]⟩ : ByteArray) (rdOf ByteArray.empty [(⟨#[48]⟩ : ByteArray), (⟨#[49]⟩ : ByteArray), (⟨#[42]⟩ : ByteArray)] v2) s3 (by have e0 : (⟨#[]⟩ : ByteArray).size = 0 := rfl; omega) (rdOf3 v2 x0 x3)
        refine ⟨p', q', a', h', ?_, u2⟩
        have hx : v2 < (([(⟨#[48]⟩ : ByteArray), (⟨#[49]⟩ : ByteArray), (⟨#[42]⟩ : ByteArray)] : List ByteArray).length : Int) := by simpa using x3
        simp only [e2, e3, Option.bind_some, if_pos x0, if_pos hx]
        exact u1
theorem ev_from {c : List Int} (hc : bytesL c) : ∃ h, Ev (fun k => spec_l01From.f k c) (c, 0, h) := by
  unfold spec_l01From.f
  have key : ∀ d i (h : Int), i + d = c.length → ∃ h', Ev (fun k => spec_l01From.l0 k c (i : Int) c 0 h) (c, 0, h') := by
    intro d
    induction d with
    | zero =>
      intro i h hi
      exact ⟨h, Ev.step (f := fun _ => some (c, 0, h)) (fun k => by rw [spec_l01From.l0, if_neg (by omega)]) (Ev.now _)⟩
    | succ d ih =>
      intro i h hi
      obtain ⟨h', r⟩ := ih (i + 1) (IntKind.u64.wrap ((IntKind.u64.wrap ((IntKind.u64.wrap (h * 1099511628211)) + (IntKind.u64.wrap (rd c (i : Int))))) + 53)) (by omega)
      have hl := hc.1
      refine ⟨h', Ev.step (fun k => ?_) r⟩
      rw [spec_l01From.l0, if_pos (by omega), if_pos (by omega), if_pos (by omega), wrS (x := (i : Int) + 1) (by omega) (by omega)]
      rfl
  exact key c.length 0 _ (by omega)
end Go.Proofs.Ytccinmopfchjlaa.Q
end
section
namespace Go.Proofs.Ytccinmopfchjlaa.Q
open Go.RowKit Go.Proofs.YtccinmopfchjlaaW.PrintWords Go.Proofs.YtccinmopfchjlaaW.PrintLast Go.Proofs.YtccinmopfchjlaaW.Ext
set_option linter.unusedVariables false
set_option linter.unusedSimpArgs false
def rhoGo (a b : ByteArray) (k : Nat) : Nat → Nat → Nat
  | 0, _ => 0
  | f + 1, i => if atV a b (i + k) = atV a b i then rhoGo a b k f (i + 1) else i + k + 1
def rhoV (a b : ByteArray) (k : Nat) : Nat := rhoGo a b k (a.size + b.size) 0
theorem rhoGo_bd (a b : ByteArray) (k : Nat) : ∀ f i, rhoGo a b k f i = 0 ∨ (k < rhoGo a b k f i ∧ rhoGo a b k f i ≤ i + f + k) := by
  intro f
  induction f with
  | zero => intro i; left; rfl
  | succ f ih =>
    intro i
    unfold rhoGo
    split
    · rcases ih (i + 1) with h | h
      · left; exact h
      · right; omega
    · right; omega
theorem rhoV_bd (a b : ByteArray) (k : Nat) (h64 : a.size + b.size ≤ 64) : rhoV a b k = 0 ∨ (k < rhoV a b k ∧ rhoV a b k ≤ k + 64) := by
  rcases rhoGo_bd a b k (a.size + b.size) 0 with h | h
  · left; exact h
  · right; unfold rhoV; omega
theorem ev_spec_rho (a b : ByteArray) (k : Nat) (hb : 1 ≤ b.size) (h64 : a.size + b.size ≤ 64) (hk : k ≤ 1000000) : Ev (fun n => spec_l02Rho.f n a b (k : Int)) ((rhoV a b k : Nat) : Int) := by
  unfold spec_l02Rho.f rhoV
  have key : ∀ f i, i + f = a.size + b.size → Ev (fun n => spec_l02Rho.l0 n (k : Int) ((i + k + 1 : Nat) : Int) a b) ((rhoGo a b k f i : Nat) : Int) := by
    intro f
    induction f with
    | zero =>
      intro i h
      refine Ev.step (f := fun _ => some 0) (fun n => ?_) (Ev.now _)
      rw [spec_l02Rho.l0, wrS (x := (a.size : Int) + (b.size : Int)) (by omega) (by omega), wrS (x := (k : Int) + ((a.size : Int) + (b.size : Int))) (by omega) (by omega), if_neg (by omega)]
    | succ f ih =>
      intro i h
      refine Ev.step (f := fun n => if atV a b (i + k) = atV a b i then spec_l02Rho.l0 n (k : Int) ((i + 1 + k + 1 : Nat) : Int) a b else some ((i + k + 1 : Nat) : Int)) (fun n => ?_) ?_
      · rw [spec_l02Rho.l0, wrS (x := (a.size : Int) + (b.size : Int)) (by omega) (by omega), wrS (x := (k : Int) + ((a.size : Int) + (b.size : Int))) (by omega) (by omega), if_pos (by omega), wrS (x := ((i + k + 1 : Nat) : Int) - 1) (by omega) (by omega), wrS (x := ((i + k + 1 : Nat) : Int) - (k : Int)) (by omega) (by omega), wrS (x := ((i + k + 1 : Nat) : Int) - (k : Int) - 1) (by omega) (by omega)]
        rw [show ((i + k + 1 : Nat) : Int) - 1 = ((i + k : Nat) : Int) by omega, show ((i + k + 1 : Nat) : Int) - (k : Int) - 1 = (i : Int) by omega, at_val a b (i + k) hb (by omega) (by omega), at_val a b i hb (by omega) (by omega)]
        simp only [Option.bind_some]
        rw [wrS (x := ((i + k + 1 : Nat) : Int) + 1) (by omega) (by omega), show ((i + k + 1 : Nat) : Int) + 1 = ((i + 1 + k + 1 : Nat) : Int) by omega]
      · unfold rhoGo
        by_cases z : atV a b (i + k) = atV a b i
        · simp only [if_pos z]; exact ih (i + 1) (by omega)
        · simp only [if_neg z]; exact Ev.now _
  rw [wrS (by omega) (by omega)]
  have := key (a.size + b.size) 0 (by omega)
  rw [show ((0 + k + 1 : Nat) : Int) = (k : Int) + 1 by omega] at this
  exact this
theorem ev_impl_rho (a b : ByteArray) (k : Nat) (hb : 1 ≤ b.size) (h64 : a.size + b.size ≤ 64) (hk : k ≤ 1000000) : Ev (fun n => impl_Sequence_rho.f n a b (k : Int)) ((rhoV a b k : Nat) : Int) := by
  unfold impl_Sequence_rho.f rhoV
  have key : ∀ f i, i + f = a.size + b.size → Ev (fun n => impl_Sequence_rho.l0 n (k : Int) ((a.size : Int) + (b.size : Int)) (i : Int) a b) ((rhoGo a b k f i : Nat) : Int) := by
    intro f
    induction f with
    | zero =>
      intro i h
      exact Ev.step (f := fun _ => some 0) (fun n => by rw [impl_Sequence_rho.l0, if_neg (by omega)]) (Ev.now _)
    | succ f ih =>
      intro i h
      refine Ev.step (f := fun n => if atV a b (i + k) = atV a b i then impl_Sequence_rho.l0 n (k : Int) ((a.size : Int) + (b.size : Int)) ((i + 1 : Nat) : Int) a b else some ((i + k + 1 : Nat) : Int)) (fun n => ?_) ?_
      · rw [impl_Sequence_rho.l0, if_pos (by omega), wrS (x := (i : Int) + (k : Int)) (by omega) (by omega), show (i : Int) + (k : Int) = ((i + k : Nat) : Int) by omega, at_val' a b (i + k) hb (by omega) (by omega), at_val' a b i hb (by omega) (by omega)]
        simp only [Option.bind_some]
        rw [wrS (x := (i : Int) + 1) (by omega) (by omega), wrS (x := ((i + k : Nat) : Int) + 1) (by omega) (by omega), show ((i + k : Nat) : Int) + 1 = ((i + k + 1 : Nat) : Int) by omega, show (i : Int) + 1 = ((i + 1 : Nat) : Int) by omega]
        by_cases z : atV a b (i + k) = atV a b i
        · rw [if_pos z.symm, if_pos z]
        · rw [if_neg (fun e => z e.symm), if_neg z]
      · unfold rhoGo
        by_cases z : atV a b (i + k) = atV a b i
        · simp only [if_pos z]; exact ih (i + 1) (by omega)
        · simp only [if_neg z]; exact Ev.now _
  rw [wrS (by omega) (by omega)]
  exact key (a.size + b.size) 0 (by omega)
def alongGo (a b : ByteArray) : Nat → List Int → Nat → List Int
  | 0, acc, _ => acc
  | f + 1, acc, x => if x = 0 then acc else alongGo a b f (acc ++ [(x : Int)]) (rhoV a b x)
theorem alongGo_len (a b : ByteArray) : ∀ f acc x, (alongGo a b f acc x).length ≤ acc.length + f := by
  intro f
  induction f with
  | zero => intro acc x; simp [alongGo]
  | succ f ih =>
    intro acc x
    unfold alongGo
    split
    · omega
    · refine Nat.le_trans (ih _ _) ?_
      simp
      omega
theorem ev_spec_along (a b : ByteArray) (M : Nat) (hM : M ≤ 100) (hb : 1 ≤ b.size) (h64 : a.size + b.size ≤ 64) :
    ∀ (f : Nat) (acc : List Int) (x : Nat), acc.length + f = M → x ≤ 100 * (acc.length + 1) → Ev (fun n => spec_l02Along.l0 n (M : Int) acc (x : Int) a b) (alongGo a b f acc x) := by
  intro f
  induction f with
  | zero =>
    intro acc x h hx
    refine Ev.step (f := fun _ => some acc) (fun n => ?_) (Ev.now _)
    rw [spec_l02Along.l0]
    by_cases h0 : (x : Int) > 0
    · rw [if_pos h0, if_neg (by omega)]
    · rw [if_neg h0]
  | succ f ih =>
    intro acc x h hx
    unfold alongGo
    by_cases h0 : x = 0
    · rw [if_pos h0]
      exact Ev.step (f := fun _ => some acc) (fun n => by rw [spec_l02Along.l0, if_neg (by omega)]) (Ev.now _)
    · rw [if_neg h0]
      refine Ev.step (f := fun n => (spec_l02Rho.f n a b (x : Int)).bind fun t => spec_l02Along.l0 n (M : Int) (acc ++ [(x : Int)]) t a b) (fun n => ?_) ?_
      · rw [spec_l02Along.l0, if_pos (by omega), if_pos (by omega), if_pos (by omega)]
      · refine Ev.bind (ev_spec_rho a b x hb h64 (by omega)) ?_
        have := rhoV_bd a b x h64
        exact ih _ _ (by simp; omega) (by simp; omega)
theorem at_per (a b : ByteArray) (i c : Nat) (hi : a.size ≤ i) : atV a b (i + b.size * c) = atV a b i := by
  unfold atV
  rw [if_neg (by omega), if_neg (by omega), show i + b.size * c - a.size = (i - a.size) + b.size * c by omega, Nat.add_mul_mod_self_left]
theorem at_per1 (a b : ByteArray) (i : Nat) (hi : a.size ≤ i) : atV a b (i + b.size) = atV a b i := by
  have := at_per a b i 1 hi
  rwa [Nat.mul_one] at this
theorem bt_star (b : ByteArray) (i : Nat) (hi : i < b.size) : bt b (i : Int) = 42 ↔ b.data.toList[i]? = some 42 := by
  have hi' : i < b.data.toList.length := by rw [← Lib.size_eq]; exact hi
  rw [List.getElem?_eq_getElem hi']
  unfold bt
  rw [Int.toNat_natCast, dif_pos hi]
  have e1 : b[i] = b.data.toList[i] := by simp [ByteArray.getElem_eq_getElem_data]
  rw [e1]
  constructor
  · intro h
    have : b.data.toList[i].toNat = (42 : UInt8).toNat := by
      show _ = 42
      omega
    rw [UInt8.toNat_inj.1 this]
  · intro h
    rw [Option.some.inj h]
    rfl
theorem index_last (b : ByteArray) (hb : 1 ≤ b.size) : Lib.indexByte b.data.toList 42 = ((b.size - 1 : Nat) : Int) ↔ (bt b ((b.size - 1 : Nat) : Int) = 42 ∧ ∀ i : Nat, i < b.size - 1 → bt b (i : Int) ≠ 42) := by
  constructor
  · intro h
    obtain ⟨h1, h2⟩ := Lib.indexByte_some h
    exact ⟨(bt_star b _ (by omega)).2 h1, fun i hi e => h2 i hi ((bt_star b i (by omega)).1 e)⟩
  · rintro ⟨h1, h2⟩
    have g := Lib.indexByte_ge b.data.toList 42
    have k1 := (bt_star b (b.size - 1) (by omega)).1 h1
    by_cases e : Lib.indexByte b.data.toList 42 = -1
    · exact absurd k1 (Lib.indexByte_none e (b.size - 1))
    · obtain ⟨o, ho⟩ := Int.eq_ofNat_of_zero_le (show 0 ≤ Lib.indexByte b.data.toList 42 by omega)
      obtain ⟨o1, o2⟩ := Lib.indexByte_some ho
      rw [ho]
      rcases Nat.lt_trichotomy o (b.size - 1) with z | z | z
      · exact absurd ((bt_star b o (by omega)).2 o1) (h2 o z)
      · rw [z]
      · exact absurd k1 (o2 _ z)
theorem in_valA (n lo hi : Int) : impl_within.f n lo hi = some (decide (lo ≤ n ∧ n ≤ hi)) := by
  unfold impl_within.f
  by_cases h : lo ≤ n
  · rw [if_pos h]; congr 1; rw [decide_eq_decide]; omega
  · rw [if_neg h]; congr 1; symm; rw [decide_eq_false_iff_not]; omega
section
variable {l : List Int} (hl : l.length ≤ 1048576)
include hl
theorem addr_step_s {i : Nat} (h1 : 1 ≤ i) (hi : i < l.length) (k : Nat) : spec_l02Address.l0 (k + 1) l (i : Int) = if rd l (i : Int) ≤ rd l ((i - 1 : Nat) : Int) then some false else spec_l02Address.l0 k l ((i + 1 : Nat) : Int) := by
  rw [spec_l02Address.l0, if_pos (by omega), if_pos (by omega), wrS (x := (i : Int) - 1) (by omega) (by omega), if_pos (by omega), if_pos (by omega), wrS (x := (i : Int) + 1) (by omega) (by omega), show (i : Int) - 1 = ((i - 1 : Nat) : Int) by omega]
  rfl
theorem addr_step_i {i : Nat} (h1 : 1 ≤ i) (hi : i < l.length) (k : Nat) : impl_isAddress.l0 (k + 1) l (i : Int) = if rd l (i : Int) ≤ rd l ((i - 1 : Nat) : Int) then some false else impl_isAddress.l0 k l ((i + 1 : Nat) : Int) := by
  rw [impl_isAddress.l0, if_pos (by omega), if_pos (by omega), wrS (x := (i : Int) - 1) (by omega) (by omega), if_pos (by omega), if_pos (by omega), wrS (x := (i : Int) + 1) (by omega) (by omega), show (i : Int) - 1 = ((i - 1 : Nat) : Int) by omega]
  rfl
theorem addr_bad : ∀ d i : Nat, i + d = l.length → 1 ≤ i → (∃ t : Nat, i ≤ t ∧ t < l.length ∧ rd l (t : Int) ≤ rd l ((t - 1 : Nat) : Int)) →
    Ev (fun k => spec_l02Address.l0 k l (i : Int)) false ∧ Ev (fun k => impl_isAddress.l0 k l (i : Int)) false := by
  intro d
  induction d with
  | zero =>
    intro i h _ ht
    obtain ⟨t, t1, t2, _⟩ := ht
    omega
  | succ d ih =>
    intro i h h1 ht
    by_cases e : rd l (i : Int) ≤ rd l ((i - 1 : Nat) : Int)
    · exact ⟨Ev.step (f := fun _ => some false) (fun k => by rw [addr_step_s hl h1 (by omega), if_pos e]) (Ev.now _), Ev.step (f := fun _ => some false) (fun k => by rw [addr_step_i hl h1 (by omega), if_pos e]) (Ev.now _)⟩
    · obtain ⟨t, t1, t2, t3⟩ := ht
      have g : i + 1 ≤ t := by
        rcases Nat.lt_or_ge i t with g | g
        · exact g
        · have : t = i := by omega
          subst this
          exact absurd t3 e
      obtain ⟨a, b⟩ := ih (i + 1) (by omega) (by omega) ⟨t, g, t2, t3⟩
      exact ⟨Ev.step (f := fun k => spec_l02Address.l0 k l ((i + 1 : Nat) : Int)) (fun k => by rw [addr_step_s hl h1 (by omega), if_neg e]) a, Ev.step (f := fun k => impl_isAddress.l0 k l ((i + 1 : Nat) : Int)) (fun k => by rw [addr_step_i hl h1 (by omega), if_neg e]) b⟩
theorem addr_good : ∀ d i : Nat, i + d = l.length → 1 ≤ i → (∀ t : Nat, i ≤ t → t < l.length → rd l ((t - 1 : Nat) : Int) < rd l (t : Int)) →
    Ev (fun k => spec_l02Address.l0 k l (i : Int)) (decide (rd l ((l.length - 1 : Nat) : Int) ≤ 40)) ∧ Ev (fun k => impl_isAddress.l0 k l (i : Int)) true := by
  intro d
  induction d with
  | zero =>
    intro i h h1 _
    refine ⟨Ev.step (f := fun _ => some (decide (rd l ((l.length - 1 : Nat) : Int) ≤ 40))) (fun k => ?_) (Ev.now _), Ev.step (f := fun _ => some true) (fun k => by rw [impl_isAddress.l0, if_neg (by omega)]) (Ev.now _)⟩
    rw [spec_l02Address.l0, if_neg (by omega), wrS (x := (l.length : Int) - 1) (by omega) (by omega), if_pos (by omega), if_pos (by omega), show (l.length : Int) - 1 = ((l.length - 1 : Nat) : Int) by omega]
  | succ d ih =>
    intro i h h1 ht
    have e := ht i (Nat.le_refl _) (by omega)
    obtain ⟨a, b⟩ := ih (i + 1) (by omega) (by omega) (fun t t1 t2 => ht t (by omega) t2)
    exact ⟨Ev.step (f := fun k => spec_l02Address.l0 k l ((i + 1 : Nat) : Int)) (fun k => by rw [addr_step_s hl h1 (by omega), if_neg (by omega)]) a, Ev.step (f := fun k => impl_isAddress.l0 k l ((i + 1 : Nat) : Int)) (fun k => by rw [addr_step_i hl h1 (by omega), if_neg (by omega)]) b⟩
theorem both_addr : ∃ r : Bool, Ev (fun k => spec_l02Address.f k l) r ∧ Ev (fun k => impl_isAddress.f k l) r ∧
    (r = true → 1 ≤ l.length ∧ l.length ≤ 20 ∧ rd l 0 = 1 ∧ rd l ((l.length - 1 : Nat) : Int) ≤ 40 ∧ ∀ t : Nat, 1 ≤ t → t < l.length → rd l ((t - 1 : Nat) : Int) < rd l (t : Int)) := by
  have st : Ev (fun k => spec_l02Address.j0 k l true) false := Ev.step (f := fun _ => some false) (fun k => by rw [spec_l02Address.j0, if_pos rfl]) (Ev.now _)
  have it : Ev (fun k => impl_isAddress.j0 k l true) false := Ev.step (f := fun _ => some false) (fun k => by rw [impl_isAddress.j0, if_pos rfl]) (Ev.now _)
  have sf : ∀ r, Ev (fun k => spec_l02Address.l0 k l 1) r → Ev (fun k => spec_l02Address.j0 k l false) r := fun r h => Ev.step (f := fun k => spec_l02Address.l0 k l 1) (fun k => by rw [spec_l02Address.j0, if_neg (by decide)]) h
  have jf : ∀ r, Ev (fun k => impl_isAddress.l0 k l 1) r → Ev (fun k => impl_isAddress.j0 k l false) r := fun r h => Ev.step (f := fun k => impl_isAddress.l0 k l 1) (fun k => by rw [impl_isAddress.j0, if_neg (by decide)]) h
  by_cases hn : 1 ≤ l.length ∧ l.length ≤ 20
  · have hs : ∀ r, Ev (fun k => spec_l02Address.j0 k l (rd l 0 != 1)) r → Ev (fun k => spec_l02Address.f k l) r := by
      intro r h
      refine Ev.congr (fun k => ?_) h
      unfold spec_l02Address.f
      rw [if_neg (by omega), if_neg (by omega), if_pos (by omega)]
    have hi : ∀ r, Ev (fun k => if rd l 0 = 1 then impl_isAddress.j0 k l (decide (rd l ((l.length - 1 : Nat) : Int) > 40)) else impl_isAddress.j0 k l true) r → Ev (fun k => impl_isAddress.f k l) r := by
      intro r h
      refine Ev.congr (fun k => ?_) h
      unfold impl_isAddress.f impl_length_int64.f
      rw [Option.bind_some, in_valA, Option.bind_some, if_pos (decide_eq_true ⟨by omega, by omega⟩), if_pos (by omega), wrS (x := (l.length : Int) - 1) (by omega) (by omega), if_pos (show 0 ≤ (l.length : Int) - 1 by omega), if_pos (show (l.length : Int) - 1 < (l.length : Int) by omega), show (l.length : Int) - 1 = ((l.length - 1 : Nat) : Int) by omega]
    by_cases h0 : rd l 0 = 1
    · have e0 : (rd l 0 != 1) = false := bne_eq_false_iff_eq.2 h0
      rw [e0] at hs
      simp only [if_pos h0] at hi
      by_cases hm : ∀ t : Nat, 1 ≤ t → t < l.length → rd l ((t - 1 : Nat) : Int) < rd l (t : Int)
      · obtain ⟨g1, g2⟩ := addr_good hl (l.length - 1) 1 (by omega) (by omega) hm
        by_cases h40 : rd l ((l.length - 1 : Nat) : Int) ≤ 40
        · refine ⟨true, hs _ (sf _ ?_), hi _ ?_, fun _ => ⟨hn.1, hn.2, h0, h40, hm⟩⟩
          · rw [decide_eq_true h40] at g1; exact g1
          · rw [decide_eq_false (show ¬ rd l ((l.length - 1 : Nat) : Int) > 40 by omega)]
            exact jf _ g2
        · refine ⟨false, hs _ (sf _ ?_), hi _ ?_, by simp⟩
          · rw [decide_eq_false h40] at g1; exact g1
          · rw [decide_eq_true (show rd l ((l.length - 1 : Nat) : Int) > 40 by omega)]
            exact it
      · have hb : ∃ t : Nat, 1 ≤ t ∧ t < l.length ∧ rd l (t : Int) ≤ rd l ((t - 1 : Nat) : Int) := by
          by_cases g : ∃ t : Nat, 1 ≤ t ∧ t < l.length ∧ rd l (t : Int) ≤ rd l ((t - 1 : Nat) : Int)
          · exact g
          · exfalso
            refine hm fun t t1 t2 => ?_
            rcases Int.lt_or_le (rd l ((t - 1 : Nat) : Int)) (rd l (t : Int)) with z | z
            · exact z
            · exact absurd ⟨t, t1, t2, z⟩ g
        obtain ⟨g1, g2⟩ := addr_bad hl (l.length - 1) 1 (by omega) (by omega) hb
        refine ⟨false, hs _ (sf _ g1), hi _ ?_, by simp⟩
        cases decide (rd l ((l.length - 1 : Nat) : Int) > 40)
        · exact jf _ g2
        · exact it
    · have e0 : (rd l 0 != 1) = true := bne_iff_ne.2 h0
      rw [e0] at hs
      simp only [if_neg h0] at hi
      exact ⟨false, hs _ st, hi _ it, by simp⟩
  · refine ⟨false, ?_, ?_, by simp⟩
    · unfold spec_l02Address.f
      by_cases h1 : (l.length : Int) < 1
      · simp only [if_pos h1]; exact st
      · simp only [if_neg h1, if_pos (show (l.length : Int) > 20 by omega)]; exact st
    · unfold impl_isAddress.f impl_length_int64.f
      have e : decide (1 ≤ (l.length : Int) ∧ (l.length : Int) ≤ 20) = false := decide_eq_false (by omega)
      simp only [Option.bind_some, in_valA, e, Bool.false_eq_true, if_false]
      exact it
end
theorem rd_get (L : List Int) (i : Nat) (hi : i < L.length) : rd L (i : Int) = L[i] := by simp [rd, hi]
def repI (W : List Int) (n : Nat) : List Int := (List.range n).map fun i => rd W ((i % W.length : Nat) : Int)
theorem repI_length (W : List Int) (n : Nat) : (repI W n).length = n := by simp [repI]
theorem ev_spec_repeated (W : List Int) (n : Nat) (hW : 1 ≤ W.length) (hW2 : W.length ≤ 1000) (hn : n ≤ 1000) : Ev (fun k => spec_l02Repeated.f k W (n : Int)) (repI W n) := by
  unfold spec_l02Repeated.f
  have key : ∀ d i : Nat, i + d = n → Ev (fun k => spec_l02Repeated.l0 k W (n : Int) (repI W i) (i : Int)) (repI W n) := by
    intro d
    induction d with
    | zero =>
      intro i h
      obtain rfl : i = n := by omega
      exact Ev.step (f := fun _ => some (repI W i)) (fun k => by rw [spec_l02Repeated.l0, if_neg (by omega)]) (Ev.now _)
    | succ d ih =>
      intro i h
      have hm := Nat.mod_lt i (show 0 < W.length by omega)
      refine Ev.step (f := fun k => spec_l02Repeated.l0 k W (n : Int) (repI W (i + 1)) ((i + 1 : Nat) : Int)) (fun k => ?_) (ih (i + 1) (by omega))
      rw [spec_l02Repeated.l0, if_pos (by omega), if_neg (by omega), tmod_nat]
      have e : repI W (i + 1) = repI W i ++ [rd W ((i % W.length : Nat) : Int)] := by simp [repI, List.range_succ]
      rw [e]
      generalize i % W.length = q at *
      rw [if_pos (by omega), if_pos (by omega), repI_length, if_pos (by omega), wrS (x := (i : Int) + 1) (by omega) (by omega)]
      rfl
  have := key n 0 (by omega)
  simpa [repI] using this
theorem bytes_ext {x : ByteArray} {L : List Int} (h : x.size = L.length) (g : ∀ i : Nat, i < x.size → bt x (i : Int) = rd L (i : Int)) : bytesOf x = L := by
  refine List.ext_getElem (by rw [bytesOf_length]; exact h) fun i h1 h2 => ?_
  rw [get_bytesOf x i h1, g i (by rw [h]; exact h2), rd_get L i h2]
theorem bt_bytes {x : ByteArray} {L : List Int} (h : bytesOf x = L) (i : Nat) (hi : i < x.size) : bt x (i : Int) = rd L (i : Int) := by
  have hl : i < (bytesOf x).length := by rw [bytesOf_length]; exact hi
  subst h
  rw [rd_get _ i hl, get_bytesOf x i hl]
theorem nums_bytes (x : ByteArray) : strOfNums (bytesOf x) = x := by
  apply ByteArray.ext
  apply Array.ext'
  rw [strOfNums_data]
  unfold bytesOf
  rw [List.map_map]
  conv => rhs; rw [← List.map_id x.data.toList]
  refine List.map_congr_left fun b _ => ?_
  simp
theorem bytes_append (x y : ByteArray) : bytesOf (x ++ y) = bytesOf x ++ bytesOf y := by simp [bytesOf]
theorem repeated_val (s : ByteArray) (n : Nat) (h1 : 1 ≤ s.size) (h2 : s.size ≤ 40) (n1 : 1 ≤ n) (n2 : n ≤ 40) :
    ∃ front : ByteArray, impl_repeated.f s (n : Int) = some (front, rd (repI (bytesOf s) n) ((n - 1 : Nat) : Int)) ∧ bytesOf front = (repI (bytesOf s) n).take (n - 1) := by
  obtain ⟨c, hc⟩ : ∃ c : Nat, n / s.size + 1 = c := ⟨_, rfl⟩
  have hq : n / s.size ≤ n := Nat.div_le_self _ _
  have hdm := Nat.div_add_mod n s.size
  have hml := Nat.mod_lt n (show 0 < s.size by omega)
  have hcn : n ≤ c * s.size := by
    rw [← hc, Nat.add_mul, Nat.one_mul, Nat.mul_comm]
    omega
  have hcs : c * s.size ≤ 41 * 40 := Nat.mul_le_mul (by omega) h2
  obtain ⟨all, hall⟩ : ∃ all, Go.Proofs.Ytccinmopfchjlaa.Rep.val s (c : Int) = all := ⟨_, rfl⟩
  have hL : s.data.toList.length = s.size := (Lib.size_eq s).symm
  have hdat : all.data.toList = Lib.repeatL s.data.toList c := by rw [← hall]; unfold Go.Proofs.Ytccinmopfchjlaa.Rep.val; simp
  have hsz : all.size = c * s.size := by rw [Lib.size_eq, hdat, Lib.repeatL_length, hL]
  have hget : ∀ i : Nat, i < n → bt all (i : Int) = rd (repI (bytesOf s) n) (i : Int) := by
    intro i hi
    have hm := Nat.mod_lt i (show 0 < s.size by omega)
    have e1 : bt all (i : Int) = bt s ((i % s.size : Nat) : Int) := by
      rw [bt_eq all s i (i % s.size) (by omega) hm, hdat, rep_get _ (by omega) _ _ (by rw [hL]; omega), hL]
    rw [e1, rd_get _ i (by rw [repI_length]; exact hi)]
    simp only [repI, List.getElem_map, List.getElem_range, bytesOf_length]
    exact bt_bytes rfl _ hm
  refine ⟨all.extract 0 (n - 1), ?_, ?_⟩
  · unfold impl_repeated.f strings_Repeat.f
    have ed : Int.tdiv (n : Int) (s.size : Int) = ((n / s.size : Nat) : Int) := by
      rw [Int.tdiv_eq_ediv_of_nonneg (by omega)]
      exact (Int.natCast_ediv _ _).symm
    rw [if_neg (by omega), ed]
    generalize n / s.size = q at *
    rw [wrS (x := (q : Int)) (by omega) (by omega), wrS (x := (q : Int) + 1) (by omega) (by omega), show (q : Int) + 1 = (c : Int) by omega, Int.toNat_natCast, if_pos ⟨by omega, by omega, by rw [Nat.mul_comm]; omega⟩, hall, Option.bind_some, wrS (x := (n : Int) - 1) (by omega) (by omega), show (n : Int) - 1 = ((n - 1 : Nat) : Int) by omega, if_pos (by omega), if_pos (by omega), if_pos (by omega), Int.toNat_natCast, hget (n - 1) (by omega)]
  · have hfs : (all.extract 0 (n - 1)).size = n - 1 := by simp; omega
    refine bytes_ext (by rw [hfs, List.length_take, repI_length]; omega) fun i hi => ?_
    rw [hfs] at hi
    have e : bt (all.extract 0 (n - 1)) (i : Int) = bt all (i : Int) := by
      rw [bt_eq _ all i i (by omega) (by omega), Lib.extract_data]
      simp only [List.drop_zero, Nat.sub_zero, List.getElem?_take, if_pos hi]
    rw [e, hget i (by omega), rd_get _ i (by rw [repI_length]; omega), rd_get _ i (by rw [List.length_take, repI_length]; omega), List.getElem_take]
theorem set_last (L : List Int) (n : Nat) (h : L.length = n) (h1 : 1 ≤ n) (x : Int) : L.set (n - 1) x = L.take (n - 1) ++ [x] := by
  rw [List.set_eq_take_append_cons_drop, if_pos (by omega), List.drop_of_length_le (by omega)]
theorem repI_two {W : List Int} {n : Nat} (hW : 1 ≤ W.length) (h : ∀ x ∈ W, x = 48 ∨ x = 49) : ∀ x ∈ repI W n, x = 48 ∨ x = 49 := by
  intro x hx
  unfold repI at hx
  obtain ⟨i, _, rfl⟩ := List.mem_map.1 hx
  have hm := Nat.mod_lt i (show 0 < W.length by omega)
  rw [rd_get W _ hm]
  exact h _ (List.getElem_mem hm)
def finW (l : List Int) : Nat → Nat → List Int → List Int
  | 0, i, W => (repI W (rd l (i : Int)).toNat).take ((rd l (i : Int)).toNat - 1) ++ [42]
  | d + 1, i, W => finW l d (i + 1) ((repI W (rd l (i : Int)).toNat).take ((rd l (i : Int)).toNat - 1) ++ [(97 - rd (repI W (rd l (i : Int)).toNat) (((rd l (i : Int)).toNat - 1 : Nat) : Int)) % 256])
theorem both_words {l : List Int} (l1 : 2 ≤ l.length) (l2 : l.length ≤ 20) (hb : ∀ t : Nat, 1 ≤ t → t < l.length → 1 ≤ rd l (t : Int) ∧ rd l (t : Int) ≤ 40) :
    ∀ (d i : Nat) (w : ByteArray), i + d = l.length - 1 → 1 ≤ i → 1 ≤ w.size → w.size ≤ 40 → (∀ x ∈ bytesOf w, x = 48 ∨ x = 49) →
      ∃ r : ByteArray, Ev (fun k => spec_SequenceOfAddress.l0 k l (bytesOf w) (i : Int)) ((⟨#[]⟩ : ByteArray), r, 0) ∧ Ev (fun k => impl_SequenceOfAddress.l0 k l w l (l.length : Int) (i : Int)) ((⟨#[]⟩ : ByteArray), r, 0) ∧ bytesOf r = finW l d i (bytesOf w) := by
  intro d
  induction d with
  | zero =>
    intro i w h h1 w1 w2 hw
    have hbi := hb i h1 (by omega)
    obtain ⟨n, hn⟩ := Int.eq_ofNat_of_zero_le (show 0 ≤ rd l (i : Int) by omega)
    obtain ⟨front, f1, f2⟩ := repeated_val w n w1 w2 (by omega) (by omega)
    have hs := ev_spec_repeated (bytesOf w) n (by rw [bytesOf_length]; exact w1) (by rw [bytesOf_length]; omega) (by omega)
    have hlen := repI_length (bytesOf w) n
    have hfs : front.size = n - 1 := by rw [← bytesOf_length, f2, List.length_take, hlen]; omega
    have hr : strOfNums ((repI (bytesOf w) n).set (n - 1) 42) = front ++ (⟨#[42]⟩ : ByteArray) := by
      rw [set_last _ n hlen (by omega), ← f2, ← nums_bytes (front ++ (⟨#[42]⟩ : ByteArray)), bytes_append]
      rfl
    refine ⟨front ++ (⟨#[42]⟩ : ByteArray), ?_, ?_, by unfold finW; rw [hn, Int.toNat_natCast, bytes_append, f2]; rfl⟩
    · refine Ev.step (f := fun k => (spec_l02Repeated.f k (bytesOf w) (n : Int)).bind fun t227 => if 0 ≤ (wrap64 ((t227.length : Int) - 1)) then (if (wrap64 ((t227.length : Int) - 1)) < (t227.length : Int) then (some ((⟨#[]⟩ : ByteArray), strOfNums (t227.set ((wrap64 ((t227.length : Int) - 1)) : Int).toNat 42), 0)) else (none)) else (none)) (fun k => ?_) (Ev.bind hs ?_)
      · rw [spec_SequenceOfAddress.l0, wrS (x := (l.length : Int) - 1) (by omega) (by omega), if_neg (by omega), if_pos (by omega), if_pos (by omega), if_pos (by omega), show (l.length : Int) - 1 = (i : Int) by omega, hn]
      · rw [hlen, wrS (x := (n : Int) - 1) (by omega) (by omega), if_pos (by omega), if_pos (by omega), show ((n : Int) - 1).toNat = n - 1 by omega, hr]
        exact Ev.now _
    · refine Ev.step (f := fun k => impl_SequenceOfAddress.l0 k l (front ++ (⟨#[42]⟩ : ByteArray)) l (l.length : Int) ((i + 1 : Nat) : Int)) (fun k => ?_) ?_
      · rw [impl_SequenceOfAddress.l0, if_pos (by omega), if_pos (by omega), if_pos (by omega), if_neg (by omega), if_neg (by omega), hn, f1, Option.bind_some, wrS (x := (l.length : Int) - 1) (by omega) (by omega), if_pos (by omega), if_pos (by simp only; omega), wrS (x := (i : Int) + 1) (by omega) (by omega)]
        rfl
      · exact Ev.step (f := fun _ => some ((⟨#[]⟩ : ByteArray), front ++ (⟨#[42]⟩ : ByteArray), 0)) (fun k => by rw [impl_SequenceOfAddress.l0, if_neg (by omega)]) (Ev.now _)
  | succ d ih =>
    intro i w h h1 w1 w2 hw
    have hbi := hb i h1 (by omega)
    obtain ⟨n, hn⟩ := Int.eq_ofNat_of_zero_le (show 0 ≤ rd l (i : Int) by omega)
    obtain ⟨front, f1, f2⟩ := repeated_val w n w1 w2 (by omega) (by omega)
    have hW : 1 ≤ (bytesOf w).length := by rw [bytesOf_length]; exact w1
    have hs := ev_spec_repeated (bytesOf w) n hW (by rw [bytesOf_length]; omega) (by omega)
    have hlen := repI_length (bytesOf w) n
    have two := repI_two (n := n) hW hw
    have hfs : front.size = n - 1 := by rw [← bytesOf_length, f2, List.length_take, hlen]; omega
    obtain ⟨x, hx⟩ : ∃ x, rd (repI (bytesOf w) n) ((n - 1 : Nat) : Int) = x := ⟨_, rfl⟩
    have hx2 : x = 48 ∨ x = 49 := by
      rw [← hx, rd_get _ (n - 1) (by rw [hlen]; omega)]
      exact two _ (List.getElem_mem _)
    obtain ⟨y, hy, hy2⟩ : ∃ y : ByteArray, y = (if x = 48 then (⟨#[49]⟩ : ByteArray) else ⟨#[48]⟩) ∧ bytesOf y = [(97 - x) % 256] := by
      refine ⟨_, rfl, ?_⟩
      rcases hx2 with rfl | rfl <;> rfl
    have hys : y.size = 1 := by rw [← bytesOf_length, hy2]; rfl
    have hr : (repI (bytesOf w) n).set (n - 1) ((97 - x) % 256) = bytesOf (front ++ y) := by
      rw [set_last _ n hlen (by omega), ← f2, bytes_append, hy2]
    have hws : (front ++ y).size = n := by rw [ByteArray.size_append, hfs, hys]; omega
    obtain ⟨r, r1, r2, r3⟩ := ih (i + 1) (front ++ y) (by omega) (by omega) (by omega) (by omega) (by
      intro z hz
      rw [bytes_append, List.mem_append] at hz
      rcases hz with hz | hz
      · rw [f2] at hz
        exact two z (List.mem_of_mem_take hz)
      · rw [hy2] at hz
        obtain rfl := List.mem_singleton.1 hz
        rcases hx2 with rfl | rfl
        · right; rfl
        · left; rfl)
    refine ⟨r, ?_, ?_, by unfold finW; rw [hn, Int.toNat_natCast, hx, ← f2, ← hy2, ← bytes_append]; exact r3⟩
    · refine Ev.step (f := fun k => (spec_l02Repeated.f k (bytesOf w) (n : Int)).bind fun t221 => if 0 ≤ (wrap64 ((t221.length : Int) - 1)) then (if (wrap64 ((t221.length : Int) - 1)) < (t221.length : Int) then (spec_SequenceOfAddress.l0 k l (t221.set ((wrap64 ((t221.length : Int) - 1)) : Int).toNat ((97 - (rd t221 (wrap64 ((t221.length : Int) - 1)))) % 256)) ((i + 1 : Nat) : Int)) else (none)) else (none)) (fun k => ?_) (Ev.bind hs ?_)
      · rw [spec_SequenceOfAddress.l0, wrS (x := (l.length : Int) - 1) (by omega) (by omega), if_pos (by omega), if_pos (by omega), if_pos (by omega), hn, wrS (x := (i : Int) + 1) (by omega) (by omega)]
        rfl
      · rw [hlen, wrS (x := (n : Int) - 1) (by omega) (by omega)]
        simp only [if_pos (show 0 ≤ (n : Int) - 1 by omega), if_pos (show (n : Int) - 1 < (n : Int) by omega)]
        rw [show ((n : Int) - 1).toNat = n - 1 by omega, show (n : Int) - 1 = ((n - 1 : Nat) : Int) by omega, hx, hr]
        exact r1
    · refine Ev.step (f := fun k => impl_SequenceOfAddress.l0 k l (front ++ y) l (l.length : Int) ((i + 1 : Nat) : Int)) (fun k => ?_) r2
      rw [impl_SequenceOfAddress.l0, if_pos (by omega), if_pos (by omega), if_pos (by omega), if_neg (by omega), if_neg (by omega), hn, f1, Option.bind_some, wrS (x := (l.length : Int) - 1) (by omega) (by omega), if_neg (by omega), hx, wrS (x := (i : Int) + 1) (by omega) (by omega), hy]
      simp only [hfs, if_pos (show n - 1 + 1 ≤ 9223372036854775807 by omega)]
      by_cases z : x = 48
      · rw [if_pos z, if_pos z]; rfl
      · rw [if_neg z, if_neg z]; rfl
theorem repI_get (W : List Int) (n j : Nat) (hj : j < n) : rd (repI W n) (j : Int) = rd W ((j % W.length : Nat) : Int) := by
  rw [rd_get _ j (by rw [repI_length]; exact hj)]
  simp [repI]
section
variable {W : List Int} {n : Nat} {z : Int}
theorem ext_length (h1 : 1 ≤ n) : ((repI W n).take (n - 1) ++ [z]).length = n := by
  rw [List.length_append, List.length_take, repI_length]
  simp
  omega
theorem ext_get (j : Nat) (hj : j < n - 1) : rd ((repI W n).take (n - 1) ++ [z]) (j : Int) = rd W ((j % W.length : Nat) : Int) := by
  rw [← repI_get W n j (by omega), rd_get _ j (by rw [List.length_append, List.length_take, repI_length]; simp; omega), rd_get _ j (by rw [repI_length]; omega), List.getElem_append_left (by rw [List.length_take, repI_length]; omega), List.getElem_take]
theorem ext_last (h1 : 1 ≤ n) : rd ((repI W n).take (n - 1) ++ [z]) ((n - 1 : Nat) : Int) = z := by
  rw [rd_get _ (n - 1) (by rw [ext_length h1]; omega), List.getElem_append_right (by rw [List.length_take, repI_length]; omega)]
  simp
end
theorem finW_spec (l : List Int) (P : Nat → Nat) (hP : ∀ t, t < l.length → rd l (t : Int) = (P t : Int)) (hinc : ∀ t, 1 ≤ t → t < l.length → P (t - 1) < P t) (h1 : ∀ t, t < l.length → 1 ≤ P t) :
    ∀ d i (W : List Int), i + d = l.length - 1 → 1 ≤ i → i < l.length → W.length = P (i - 1) → (∀ j : Nat, j < W.length → rd W (j : Int) = 48 ∨ rd W (j : Int) = 49) →
      (finW l d i W).length = P (l.length - 1) ∧ (∀ j : Nat, j < W.length → rd (finW l d i W) (j : Int) = rd W (j : Int)) ∧ rd (finW l d i W) ((P (l.length - 1) - 1 : Nat) : Int) = 42 ∧
      (∀ j : Nat, j < P (l.length - 1) - 1 → rd (finW l d i W) (j : Int) = 48 ∨ rd (finW l d i W) (j : Int) = 49) ∧
      (∀ t, i ≤ t → t < l.length → (∀ j : Nat, j + P (t - 1) + 1 < P t → rd (finW l d i W) ((j + P (t - 1) : Nat) : Int) = rd (finW l d i W) (j : Int)) ∧
        rd (finW l d i W) ((P t - 1 : Nat) : Int) ≠ rd (finW l d i W) ((P t - 1 - P (t - 1) : Nat) : Int)) := by
  intro d
  have mods : ∀ (a n : Nat), 1 ≤ a → a < n → (n - 1 - a) % a = (n - 1) % a := fun a n ha hn => by
    conv => rhs; rw [show n - 1 = (n - 1 - a) + a by omega, Nat.add_mod_right]
  induction d with
  | zero =>
    intro i W h hi hil hW two
    have hn := hP i hil
    have ha := h1 (i - 1) (by omega)
    have han := hinc i hi hil
    have hl : P (l.length - 1) = P i := by rw [show l.length - 1 = i by omega]
    have e : finW l 0 i W = (repI W (P i)).take (P i - 1) ++ [42] := by unfold finW; rw [hn, Int.toNat_natCast]
    rw [e, hl]
    have g := fun j hj => ext_get (W := W) (n := P i) (z := 42) j hj
    have last := ext_last (W := W) (n := P i) (z := 42) (by omega)
    have m2 : ∀ j : Nat, rd W ((j % W.length : Nat) : Int) = 48 ∨ rd W ((j % W.length : Nat) : Int) = 49 := fun j => two _ (Nat.mod_lt _ (by omega))
    refine ⟨ext_length (by omega), fun j hj => ?_, last, fun j hj => ?_, fun t ht htl => ?_⟩
    · rw [g j (by omega), Nat.mod_eq_of_lt hj]
    · rw [g j hj]; exact m2 j
    · obtain rfl : t = i := by omega
      refine ⟨fun j hj => ?_, ?_⟩
      · rw [g (j + P (t - 1)) (by omega), g j (by omega), ← hW, Nat.add_mod_right]
      · rw [last, g _ (by omega)]
        intro c
        rcases m2 (P t - 1 - P (t - 1)) with q | q <;> omega
  | succ d ih =>
    intro i W h hi hil hW two
    have hn := hP i hil
    have ha := h1 (i - 1) (by omega)
    have han := hinc i hi hil
    obtain ⟨z, hz⟩ : ∃ z, (97 - rd (repI W (P i)) ((P i - 1 : Nat) : Int)) % 256 = z := ⟨_, rfl⟩
    have e : finW l (d + 1) i W = finW l d (i + 1) ((repI W (P i)).take (P i - 1) ++ [z]) := by
      conv => lhs; unfold finW
      rw [hn, Int.toNat_natCast, hz]
    rw [repI_get W (P i) (P i - 1) (by omega)] at hz
    have m2 : ∀ j : Nat, rd W ((j % W.length : Nat) : Int) = 48 ∨ rd W ((j % W.length : Nat) : Int) = 49 := fun j => two _ (Nat.mod_lt _ (by omega))
    have g := fun j hj => ext_get (W := W) (n := P i) (z := z) j hj
    have last := ext_last (W := W) (n := P i) (z := z) (by omega)
    have len := ext_length (W := W) (n := P i) (z := z) (by omega)
    have hz2 : (z = 48 ∨ z = 49) ∧ z ≠ rd W (((P i - 1) % W.length : Nat) : Int) := by
      rcases m2 (P i - 1) with q | q <;> rw [q] at hz ⊢ <;> omega
    rw [e]
    generalize (repI W (P i)).take (P i - 1) ++ [z] = V at *
    obtain ⟨c1, c2, c3, c4, c5⟩ := ih (i + 1) V (by omega) (by omega) (by omega) (by rw [len]; simp) (fun j hj => by
      by_cases q : j = P i - 1
      · subst q; rw [last]; exact hz2.1
      · rw [g j (by omega)]; exact m2 j)
    refine ⟨c1, fun j hj => ?_, c3, c4, fun t ht htl => ?_⟩
    · rw [c2 j (by omega), g j (by omega), Nat.mod_eq_of_lt hj]
    · by_cases q : t = i
      · subst q
        refine ⟨fun j hj => ?_, ?_⟩
        · rw [c2 _ (by omega), c2 _ (by omega), g (j + P (t - 1)) (by omega), g j (by omega), ← hW, Nat.add_mod_right]
        · rw [c2 _ (by omega), c2 _ (by omega), last, g _ (by omega), hW, mods _ _ ha han, ← hW]
          exact hz2.2
      · exact c5 t (by omega) htl
theorem rhoGo_first (a b : ByteArray) (k : Nat) : ∀ f s i0, s ≤ i0 → i0 < s + f → (∀ i, s ≤ i → i < i0 → atV a b (i + k) = atV a b i) → atV a b (i0 + k) ≠ atV a b i0 → rhoGo a b k f s = i0 + k + 1 := by
  intro f
  induction f with
  | zero => intro s i0 h1 h2; omega
  | succ f ih =>
    intro s i0 h1 h2 h3 h4
    unfold rhoGo
    by_cases z : s = i0
    · subst z; rw [if_neg h4]
    · rw [if_pos (h3 s (Nat.le_refl _) (by omega))]
      exact ih (s + 1) i0 (by omega) (by omega) (fun i hi hi2 => h3 i (by omega) hi2) h4
theorem rhoGo_none (a b : ByteArray) (k : Nat) : ∀ f s, (∀ i, atV a b (i + k) = atV a b i) → rhoGo a b k f s = 0 := by
  intro f
  induction f with
  | zero => intro s _; rfl
  | succ f ih =>
    intro s h
    unfold rhoGo
    rw [if_pos (h s)]
    exact ih (s + 1) h
def chainL (a b : ByteArray) : Nat → Nat → List Int
  | 0, _ => []
  | f + 1, x => if x = 0 then [] else (x : Int) :: chainL a b f (rhoV a b x)
theorem along_chain (a b : ByteArray) : ∀ f acc x, alongGo a b f acc x = acc ++ chainL a b f x := by
  intro f
  induction f with
  | zero => intro acc x; simp [alongGo, chainL]
  | succ f ih =>
    intro acc x
    unfold alongGo chainL
    split
    · simp
    · rw [ih]; simp
structure Addr_ (l : List Int) (P : Nat → Nat) : Prop where
  h1 : 1 ≤ l.length
  h20 : l.length ≤ 20
  hP : ∀ t, t < l.length → rd l (t : Int) = (P t : Int)
  h0 : P 0 = 1
  hinc : ∀ t, 1 ≤ t → t < l.length → P (t - 1) < P t
  h40 : P (l.length - 1) ≤ 40
theorem Addr_.pos {l : List Int} {P : Nat → Nat} (h : Addr_ l P) : ∀ t, t < l.length → 1 ≤ P t := by
  intro t
  induction t with
  | zero => intro _; have := h.h0; omega
  | succ t ih =>
    intro ht
    have := ih (by omega)
    have := h.hinc (t + 1) (by omega) ht
    simp only [Nat.add_sub_cancel] at this
    omega
theorem Addr_.le {l : List Int} {P : Nat → Nat} (h : Addr_ l P) : ∀ d t, t + d = l.length - 1 → P t ≤ P (l.length - 1) := by
  intro d
  induction d with
  | zero => intro t e; rw [show t = l.length - 1 by omega]; exact Nat.le_refl _
  | succ d ih =>
    intro t e
    have a := ih (t + 1) (by omega)
    have b := h.hinc (t + 1) (by omega) (by have := h.h1; omega)
    simp only [Nat.add_sub_cancel] at b
    omega
def ownW (l : List Int) : List Int := if l.length = 1 then [42] else finW l (l.length - 2) 1 [49]
theorem own_spec {l : List Int} {P : Nat → Nat} (h : Addr_ l P) : (ownW l).length = P (l.length - 1) ∧ rd (ownW l) ((P (l.length - 1) - 1 : Nat) : Int) = 42 ∧
    (∀ j : Nat, j < P (l.length - 1) - 1 → rd (ownW l) (j : Int) = 48 ∨ rd (ownW l) (j : Int) = 49) ∧ (1 < P (l.length - 1) → rd (ownW l) 0 = 49) ∧
    (∀ t, 1 ≤ t → t < l.length → (∀ j : Nat, j + P (t - 1) + 1 < P t → rd (ownW l) ((j + P (t - 1) : Nat) : Int) = rd (ownW l) (j : Int)) ∧
        rd (ownW l) ((P t - 1 : Nat) : Int) ≠ rd (ownW l) ((P t - 1 - P (t - 1) : Nat) : Int)) := by
  unfold ownW
  by_cases e : l.length = 1
  · rw [if_pos e, e]
    have h0 := h.h0
    simp only [Nat.sub_self, h0]
    exact ⟨rfl, rfl, fun j hj => by omega, fun z => by omega, fun t t1 t2 => by omega⟩
  · rw [if_neg e]
    have h1 := h.h1
    obtain ⟨c1, c2, c3, c4, c5⟩ := finW_spec l P h.hP h.hinc h.pos (l.length - 2) 1 [49] (by omega) (by omega) (by omega) (by simpa using h.h0.symm) (fun j hj => by
      obtain rfl : j = 0 := by simpa using hj
      right; rfl)
    refine ⟨c1, c3, c4, fun _ => ?_, c5⟩
    exact c2 0 (by simp)
theorem own_chain {l : List Int} {P : Nat → Nat} (h : Addr_ l P) {b : ByteArray} (hb : bytesOf b = ownW l) : chainL (⟨#[]⟩ : ByteArray) b 20 1 = l := by
  obtain ⟨o1, o2, o3, o4, o5⟩ := own_spec h
  have hs : b.size = P (l.length - 1) := by rw [← o1, ← hb, bytesOf_length]
  have hl1 := h.h1
  have hN : 1 ≤ b.size := by rw [hs]; exact h.pos _ (by omega)
  have at_ : ∀ i : Nat, i < b.size → atV (⟨#[]⟩ : ByteArray) b i = rd (ownW l) (i : Int) := fun i hi => by
    unfold atV
    have e0 : (⟨#[]⟩ : ByteArray).size = 0 := rfl
    rw [e0, if_neg (by omega), Nat.sub_zero, Nat.mod_eq_of_lt hi]
    exact bt_bytes hb i hi
  have rho1 : ∀ t, t + 1 < l.length → rhoV (⟨#[]⟩ : ByteArray) b (P t) = P (t + 1) := fun t ht => by
    obtain ⟨q1, q2⟩ := o5 (t + 1) (by omega) ht
    have hlt := h.hinc (t + 1) (by omega) ht
    have hle := h.le (l.length - 1 - (t + 1)) (t + 1) (by omega)
    simp only [Nat.add_sub_cancel] at q1 q2 hlt
    unfold rhoV
    have e0 : (⟨#[]⟩ : ByteArray).size = 0 := rfl
    have hp := h.pos t (by omega)
    rw [rhoGo_first _ b (P t) _ 0 (P (t + 1) - 1 - P t) (Nat.zero_le _) (by rw [e0]; omega) (fun i _ hi => ?_) ?_]
    · omega
    · rw [at_ _ (by omega), at_ _ (by omega), show P (t + 1) - 1 - P t + P t = P (t + 1) - 1 by omega]
      exact q2
    · rw [at_ _ (by omega), at_ _ (by omega)]
      exact q1 i (by omega)
  have rho2 : rhoV (⟨#[]⟩ : ByteArray) b (P (l.length - 1)) = 0 := by
    unfold rhoV
    refine rhoGo_none _ _ _ _ _ fun i => ?_
    rw [← hs]
    exact at_per1 _ b i (Nat.zero_le _)
  have key : ∀ f t, t + f = 20 → t < l.length → chainL (⟨#[]⟩ : ByteArray) b f (P t) = l.drop t := by
    intro f
    induction f with
    | zero => intro t h1 h2; have := h.h20; omega
    | succ f ih =>
      intro t h1 h2
      have hp := h.pos t h2
      unfold chainL
      rw [if_neg (by omega), List.drop_eq_getElem_cons h2, ← rd_get l t h2, h.hP t h2]
      congr 1
      by_cases q : t + 1 < l.length
      · rw [rho1 t q]
        exact ih (t + 1) (by omega) q
      · obtain rfl : t = l.length - 1 := by omega
        rw [rho2, List.drop_of_length_le (by omega)]
        cases f <;> simp [chainL]
  have := key 20 0 (by omega) (by omega)
  rw [h.h0] at this
  simpa using this
theorem own_seq {b : ByteArray} (hb : 1 ≤ b.size) (h64 : b.size ≤ 64) (hl : bt b ((b.size - 1 : Nat) : Int) = 42) (ho : ∀ i : Nat, i < b.size - 1 → bt b (i : Int) = 48 ∨ bt b (i : Int) = 49) (h1 : 1 < b.size → bt b 0 = 49) :
    Ev (fun k => impl_IsSequence.f k (⟨#[]⟩ : ByteArray) b) true ∧ impl_Sequence_isStar.f (⟨#[]⟩ : ByteArray) b = some true := by
  have e0 : (⟨#[]⟩ : ByteArray).size = 0 := rfl
  have ea : (⟨#[]⟩ : ByteArray) ++ b = b := by simp [ByteArray.ext_iff]
  have hlet : lettersB b = true := by
    unfold lettersB
    refine List.all_eq_true.2 fun x hx => ?_
    obtain ⟨i, hi, rfl⟩ := List.getElem_of_mem hx
    rw [get_bytesOf b i hi]
    rw [bytesOf_length] at hi
    unfold isLetterN
    by_cases q : i = b.size - 1
    · subst q; rw [hl]; decide
    · rcases ho i (by omega) with z | z <;> rw [z] <;> decide
  have ne42 : ∀ i : Nat, i < b.size - 1 → bt b (i : Int) ≠ 42 := fun i hi c => by rcases ho i hi with z | z <;> omega
  have hx : b.extract 0 b.size = b := by simp
  constructor
  · refine Ev.congr (f := fun k => (impl_sequence.f k (⟨#[]⟩ : ByteArray) b).bind fun c => some (c.1.toList == (⟨#[]⟩ : ByteArray).toList && (c.2.toList == b.toList))) (fun k => ?_) ?_
    · unfold impl_IsSequence.f
      rw [if_pos (by omega), ea, impl_letters b (by omega), hlet, Option.bind_some, if_pos rfl, given_val _ b (by omega), Option.bind_some, if_pos (decide_eq_true ⟨hb, by omega⟩)]
    · have hr : Ev (fun k => impl_sequence.f k (⟨#[]⟩ : ByteArray) b) ((⟨#[]⟩ : ByteArray), b) := by
        unfold impl_sequence.f
        refine Ev.bind (ev_impl_root (s := b) (by omega) hb (Nat.le_refl _) ⟨Nat.mod_self _, fun i h1 h2 => by omega⟩ (fun j j1 j2 hp => ?_)) ?_
        · have q := hp.2 (b.size - 1) (by omega) (by omega)
          rw [hl] at q
          exact ne42 (b.size - 1 - j) (by omega) q.symm
        · rw [hx]
          exact ev_impl_rot 0 (⟨#[]⟩ : ByteArray) b rfl (by omega) hb h64
      refine Ev.bind hr ?_
      simp
      exact Ev.now _
  · unfold impl_Sequence_isStar.f
    have ix : strings_IndexByte.f b 42 = some (Lib.indexByte b.data.toList 42) := by
      unfold strings_IndexByte.f
      rw [if_pos (by omega)]
      rfl
    rw [if_pos ((nil_iff _).2 e0), ix, Option.bind_some, wrS (x := (b.size : Int) - 1) (by omega) (by omega), show (b.size : Int) - 1 = ((b.size - 1 : Nat) : Int) by omega, if_pos ((index_last b hb).2 ⟨hl, ne42⟩)]
    by_cases q : b.size = 1
    · rw [if_pos (by omega)]
    · rw [if_neg (by omega), if_pos (by omega), h1 (by omega)]
      rfl
theorem impl_RhoOf_val {a b : ByteArray} {n : Int} (l3 : 1 ≤ b.size) (l4 : a.size + b.size ≤ 64) (hd : 1 ≤ n ∧ n ≤ 1000) (hi : Ev (fun k => impl_IsSequence.f k a b) true) :
    Ev (fun k => impl_RhoOf.f k a b n) (if ((rhoV a b n.toNat : Nat) : Int) = 0 then (0, 4) else (((rhoV a b n.toNat : Nat) : Int), 0)) := by
  have hc := ev_code1 (decide (1 ≤ n ∧ n ≤ 1000)) hi
  obtain ⟨m, rfl⟩ := Int.eq_ofNat_of_zero_le (show 0 ≤ n by omega)
  have h2 := ev_impl_rho a b m l3 l4 (by omega)
  unfold impl_RhoOf.f
  simp only [in_val', Option.bind_some]
  refine Ev.bind hc ?_
  simp only [decide_eq_true hd, if_true]
  refine Ev.bind h2 ?_
  rw [Int.toNat_natCast]
  split <;> exact Ev.now _
theorem both_RhoOf (a b : ByteArray) (n : Int) (h : a.size + b.size ≤ 1048576) : ∃ v : Int × Int, Ev (fun k => spec_RhoOf.f k a b n) v ∧ Ev (fun k => impl_RhoOf.f k a b n) v ∧ (v.2 = 0 → n < v.1) := by
  obtain ⟨r, hs, hi, hr⟩ := both_seq a b h
  have hc := ev_code1 (decide (1 ≤ n ∧ n ≤ 1000)) hi
  cases r with
  | false =>
    refine ⟨(0, 1), ?_, ?_, fun z => by cases z⟩
    · unfold spec_RhoOf.f
      refine Ev.bind hs ?_
      simp only [Bool.false_eq_true, if_false]
      exact Ev.now _
    · unfold impl_RhoOf.f
      simp only [in_val', Option.bind_some]
      refine Ev.bind hc ?_
      simp
      exact Ev.now _
  | true =>
    obtain ⟨l1, l2, l3, l4⟩ := hr rfl
    by_cases hd : 1 ≤ n ∧ n ≤ 1000
    · refine ⟨_, ?_, impl_RhoOf_val l3 l4 hd hi, ?_⟩
      · obtain ⟨m, rfl⟩ := Int.eq_ofNat_of_zero_le (show 0 ≤ n by omega)
        have h1 := ev_spec_rho a b m l3 l4 (by omega)
        unfold spec_RhoOf.f
        refine Ev.bind hs ?_
        simp only [in_val, decide_eq_true hd, Option.bind_some, if_true]
        refine Ev.bind h1 ?_
        rw [Int.toNat_natCast]
        split <;> exact Ev.now _
      · intro z
        have bd := rhoV_bd a b n.toNat l4
        split at z
        · cases z
        · rename_i q
          rw [if_neg q]
          show n < ((rhoV a b n.toNat : Nat) : Int)
          omega
    · refine ⟨(0, 2), ?_, ?_, fun z => by cases z⟩
      · unfold spec_RhoOf.f
        refine Ev.bind hs ?_
        simp only [in_val, decide_eq_false hd, Option.bind_some, if_true, Bool.false_eq_true, if_false]
        exact Ev.now _
      · unfold impl_RhoOf.f
        simp only [in_val', Option.bind_some]
        refine Ev.bind hc ?_
        simp [decide_eq_false hd]
        exact Ev.now _
theorem ev_impl_addressX (a b : ByteArray) (hb : 1 ≤ b.size) (h64 : a.size + b.size ≤ 64) :
    ∀ (f : Nat) (acc : List Int) (x : Nat), acc.length + f = 20 → x ≤ 100 * (acc.length + 1) → Ev (fun n => impl_InternalAddress.l0 n acc (x : Int) a b) (alongGo a b f acc x, 0) := by
  intro f
  induction f with
  | zero =>
    intro acc x h hx
    refine Ev.step (f := fun _ => some (acc, 0)) (fun n => ?_) (Ev.now _)
    rw [impl_InternalAddress.l0]
    by_cases h0 : (x : Int) = 0
    · rw [if_pos h0]
    · rw [if_neg h0, if_neg (by omega)]
  | succ f ih =>
    intro acc x h hx
    unfold alongGo
    by_cases h0 : x = 0
    · rw [if_pos h0]
      exact Ev.step (f := fun _ => some (acc, 0)) (fun n => by rw [impl_InternalAddress.l0, if_pos (by omega)]) (Ev.now _)
    · rw [if_neg h0]
      refine Ev.step (f := fun n => (impl_Sequence_rho.f n a b (x : Int)).bind fun t => impl_InternalAddress.l0 n (acc ++ [(x : Int)]) t a b) (fun n => ?_) ?_
      · rw [impl_InternalAddress.l0, if_neg (by omega), if_pos (by omega), if_pos (by omega)]
      · refine Ev.bind (ev_impl_rho a b x hb h64 (by omega)) ?_
        have := rhoV_bd a b x h64
        exact ih _ _ (by simp; omega) (by simp; omega)
theorem impl_Address_val {a b : ByteArray} (l3 : 1 ≤ b.size) (l4 : a.size + b.size ≤ 64) (hi : Ev (fun k => impl_IsSequence.f k a b) true) : Ev (fun k => impl_InternalAddress.f k a b) (chainL a b 20 1, 0) := by
  have e2 := ev_impl_addressX a b l3 l4 20 [] 1 (by simp) (by simp)
  rw [along_chain] at e2
  unfold impl_InternalAddress.f
  refine Ev.bind (ev_code1 true hi) ?_
  simp only [if_true]
  exact e2
theorem both_Address (a b : ByteArray) (h : a.size + b.size ≤ 1048576) : ∃ v : List Int × Int, Ev (fun k => spec_InternalAddress.f k a b) v ∧ Ev (fun k => impl_InternalAddress.f k a b) v ∧ v.1.length ≤ 20 ∧
    (v.2 = 0 → 1 ≤ b.size ∧ a.size + b.size ≤ 64 ∧ Ev (fun k => impl_IsSequence.f k a b) true ∧ v.1 = chainL a b 20 1) := by
  obtain ⟨q, hs, hi, hr⟩ := both_seq a b h
  have hc := ev_code1 true hi
  cases q with
  | false =>
    refine ⟨([], 1), ?_, ?_, by simp, fun z => by cases z⟩
    · unfold spec_InternalAddress.f
      refine Ev.bind hs ?_
      simp only [Bool.false_eq_true, if_false]
      exact Ev.now _
    · unfold impl_InternalAddress.f
      refine Ev.bind hc ?_
      simp
      exact Ev.now _
  | true =>
    obtain ⟨_, _, l3, l4⟩ := hr rfl
    have e1 := ev_spec_along a b 20 (by omega) l3 l4 20 [] 1 (by simp) (by simp)
    have len := alongGo_len a b 20 [] 1
    rw [along_chain] at e1 len
    refine ⟨(chainL a b 20 1, 0), ?_, impl_Address_val l3 l4 hi, by simpa using len, fun _ => ⟨l3, l4, hi, rfl⟩⟩
    unfold spec_InternalAddress.f
    refine Ev.bind hs ?_
    simp only [if_true]
    unfold spec_l02Along.f
    exact Ev.bind e1 (Ev.now _)
theorem both_OfAddress (l : List Int) (hl : l.length ≤ 1048576) : (Ev (fun k => spec_SequenceOfAddress.f k l) (⟨#[]⟩, ⟨#[]⟩, 2) ∧ Ev (fun k => impl_SequenceOfAddress.f k l) (⟨#[]⟩, ⟨#[]⟩, 2)) ∨
    ∃ (P : Nat → Nat) (b : ByteArray), Addr_ l P ∧ bytesOf b = ownW l ∧ Ev (fun k => spec_SequenceOfAddress.f k l) (⟨#[]⟩, b, 0) ∧ Ev (fun k => impl_SequenceOfAddress.f k l) (⟨#[]⟩, b, 0) := by
  obtain ⟨q, q1, q2, q3⟩ := both_addr hl
  cases q with
  | false =>
    left
    constructor
    · unfold spec_SequenceOfAddress.f
      refine Ev.bind q1 ?_
      simp only [Bool.false_eq_true, if_false]
      exact Ev.now _
    · unfold impl_SequenceOfAddress.f
      refine Ev.bind q2 ?_
      simp only [Bool.false_eq_true, if_false]
      exact Ev.now _
  | true =>
    right
    obtain ⟨a1, a2, a3, a4, a5⟩ := q3 rfl
    have up : ∀ t : Nat, t < l.length → 1 ≤ rd l (t : Int) := by
      intro t
      induction t with
      | zero =>
        intro _
        have e : rd l ((0 : Nat) : Int) = 1 := a3
        omega
      | succ t ih =>
        intro ht
        have g := ih (by omega)
        have g2 := a5 (t + 1) (by omega) ht
        simp only [Nat.add_sub_cancel] at g2
        omega
    have down : ∀ d t : Nat, t + d = l.length - 1 → rd l (t : Int) ≤ 40 := by
      intro d
      induction d with
      | zero =>
        intro t h
        obtain rfl : t = l.length - 1 := by omega
        exact a4
      | succ d ih =>
        intro t h
        have g := ih (t + 1) (by omega)
        have g2 := a5 (t + 1) (by omega) (by omega)
        simp only [Nat.add_sub_cancel] at g2
        omega
    have hA : Addr_ l (fun t => (rd l (t : Int)).toNat) := ⟨a1, a2, fun t ht => by have := up t ht; omega, by
      have e : rd l ((0 : Nat) : Int) = 1 := a3
      simp only [e]
      rfl, fun t h1 h2 => by have := a5 t h1 h2; have := up (t - 1) (by omega); omega, by have := down 0 (l.length - 1) (by omega); omega⟩
    by_cases h1 : l.length = 1
    · refine ⟨_, ⟨#[42]⟩, hA, by unfold ownW; rw [if_pos h1]; rfl, ?_, ?_⟩
      · unfold spec_SequenceOfAddress.f
        refine Ev.bind q1 ?_
        simp only [if_true]
        refine Ev.step (f := fun _ => some (⟨#[]⟩, ⟨#[42]⟩, 0)) (fun k => ?_) (Ev.now _)
        rw [spec_SequenceOfAddress.l0, wrS (x := (l.length : Int) - 1) (by omega) (by omega), if_neg (by omega), if_neg (by omega), wrS (x := ((([49] : List Int).length : Nat) : Int) - 1) (by decide) (by decide)]
        rfl
      · unfold impl_SequenceOfAddress.f
        refine Ev.bind q2 ?_
        simp only [if_true]
        refine Ev.step (f := fun k => impl_SequenceOfAddress.l0 k l (⟨#[42]⟩ : ByteArray) l (l.length : Int) 1) (fun k => ?_) (Ev.step (f := fun _ => some (⟨#[]⟩, ⟨#[42]⟩, 0)) (fun k => by rw [impl_SequenceOfAddress.l0, if_neg (by omega)]) (Ev.now _))
        rw [impl_SequenceOfAddress.l0, if_pos (by omega), if_pos (by omega), if_pos (by omega), if_pos (by omega), wrS (x := (0 : Int) + 1) (by omega) (by omega)]
        rfl
    · have e49 : bytesOf (⟨#[49]⟩ : ByteArray) = [49] := rfl
      obtain ⟨r, r1, r2, r3⟩ := both_words (l := l) (by omega) a2 (fun t t1 t2 => ⟨up t t2, down (l.length - 1 - t) t (by omega)⟩) (l.length - 2) 1 (⟨#[49]⟩ : ByteArray) (by omega) (by omega) (by decide) (by decide) (by rw [e49]; intro x hx; right; exact List.mem_singleton.1 hx)
      refine ⟨_, r, hA, by unfold ownW; rw [if_neg h1, r3, e49], ?_, ?_⟩
      · unfold spec_SequenceOfAddress.f
        refine Ev.bind q1 ?_
        simp only [if_true]
        exact r1
      · unfold impl_SequenceOfAddress.f
        refine Ev.bind q2 ?_
        simp only [if_true]
        refine Ev.step (f := fun k => impl_SequenceOfAddress.l0 k l (⟨#[49]⟩ : ByteArray) l (l.length : Int) 1) (fun k => ?_) r2
        rw [impl_SequenceOfAddress.l0, if_pos (by omega), if_pos (by omega), if_pos (by omega), if_neg (by omega), if_pos rfl, wrS (x := (0 : Int) + 1) (by omega) (by omega)]
        rfl
theorem own_facts {l : List Int} {P : Nat → Nat} (h : Addr_ l P) {b : ByteArray} (hb : bytesOf b = ownW l) : 1 ≤ b.size ∧ b.size ≤ 40 ∧ Ev (fun k => impl_IsSequence.f k (⟨#[]⟩ : ByteArray) b) true ∧ impl_Sequence_isStar.f (⟨#[]⟩ : ByteArray) b = some true := by
  obtain ⟨o1, o2, o3, o4, o5⟩ := own_spec h
  have hs : b.size = P (l.length - 1) := by rw [← o1, ← hb, bytesOf_length]
  have hl1 := h.h1
  have hp := h.pos (l.length - 1) (by omega)
  have h40 := h.h40
  obtain ⟨c1, c2⟩ := own_seq (b := b) (by omega) (by omega) (by rw [bt_bytes hb _ (by omega), hs]; exact o2) (fun i hi => by rw [bt_bytes hb _ (by omega)]; exact o3 i (by omega)) (fun z => by
    have := bt_bytes hb 0 (by omega)
    rw [show ((0 : Nat) : Int) = 0 from rfl] at this
    rw [this]
    exact o4 (by omega))
  exact ⟨by omega, by omega, c1, c2⟩
theorem ev_like (l : List Int) (hl : l.length ≤ 1000) : Ev (fun k => laws_likeInts.f k l l) true := by
  unfold laws_likeInts.f
  simp only [if_true]
  have key : ∀ d i, i + d = l.length → Ev (fun k => laws_likeInts.l0 k l l (i : Int)) true := by
    intro d
    induction d with
    | zero =>
      intro i h
      exact Ev.step (f := fun _ => some true) (fun k => by rw [laws_likeInts.l0, if_neg (by omega)]) (Ev.now _)
    | succ d ih =>
      intro i h
      refine Ev.step (f := fun k => laws_likeInts.l0 k l l ((i + 1 : Nat) : Int)) (fun k => ?_) (ih (i + 1) (by omega))
      rw [laws_likeInts.l0, if_pos (by omega), if_pos (by omega), if_pos (by omega), if_pos rfl, wrS (by omega) (by omega)]
      rfl
  exact key l.length 0 (by omega)
end Go.Proofs.Ytccinmopfchjlaa.Q
end
