/- Joined texts: Qx65, MidVote, MidSame, MidScan, MidMove, MidLoop, MidTop, Qx49, Qx46, MidCode, MidCanon, MidRun -/
import Derived.Test.YtmhpbilkocnlnaaPkFnMiddles22
import Derived.Test.YtmhpbilkocnlnaaPkFnMiddles24
import Derived.Test.YtmhpbilkocnlnaaPkFnMiddles23
section
namespace Go.Proofs.Ytmhpbilkocnlnaa.Q
open Go.Proofs.YtmhpbilkocnlnaaW.Ext
open Go.RowKit Go.Proofs.YtmhpbilkocnlnaaW.PrintWords Go.Proofs.YtmhpbilkocnlnaaW.PrintLast Go.Proofs.YtmhpbilkocnlnaaW.PrintMore
attribute [local go_sem] max2_int min2_int max_two min_two max_three min_three max_four min_four   -- for this text's walks alone
set_option linter.unusedVariables false
set_option linter.unusedSimpArgs false
attribute [local go_sem high] eqA50
mutual
def spec_l06Middle.l0:Nat → List Int → List (S50) → Int → ByteArray → ByteArray → ByteArray → ByteArray → ByteArray → ByteArray → ByteArray → ByteArray → Option (ByteArray × ByteArray × Bool)
 | 0,_,_,_,_,_,_,_,_,_,_,_=>none
 | k + 1,x6,x7,x8,x559000,x559001,x560000,x560001,x560002,x560003,x560004,x560005=>if x8 ≤ 600 then ((spec_l06Same.f k x560000 x560001 x560002 x560003 x560004 x560005).bind fun bt567=>(if bt567.2.2 = true then (if (strOfNums x6).size + bt567.1.size ≤ 9223372036854775807 then ((spec_l06Told.f k ((strOfNums x6) ++ bt567.1) bt567.2.1).bind fun bt571=>(some (bt571.1,bt571.2.1,bt571.2.2))) else (none)) else ((spec_l06Letters.f x560000 x560001 x560002 x560003 x560004 x560005).bind fun bt574=>(if bt574.2 ≥ 0 then (if bt574.2 = 0 then (if (strOfNums x6).size + x560000.size ≤ 9223372036854775807 then ((spec_l06Told.f k ((strOfNums x6) ++ x560000) x560001).bind fun bt576=>(some (bt576.1,bt576.2.1,bt576.2.2))) else (none)) else (if bt574.2 = 1 then (if (strOfNums x6).size + x560002.size ≤ 9223372036854775807 then ((spec_l06Told.f k ((strOfNums x6) ++ x560002) x560003).bind fun bt579=>(some (bt579.1,bt579.2.1,bt579.2.2))) else (none)) else (if bt574.2 = 2 then (if (strOfNums x6).size + x560004.size ≤ 9223372036854775807 then ((spec_l06Told.f k ((strOfNums x6) ++ x560004) x560005).bind fun bt582=>(some (bt582.1,bt582.2.1,bt582.2.2))) else (none)) else (none)))) else (spec_l06Middle.l1 k x6 x7 x8 bt574.1 0 x559000 x559001 x560000 x560001 x560002 x560003 x560004 x560005))))) else (some ((⟨#[]⟩:ByteArray),(⟨#[]⟩:ByteArray),false))
def spec_l06Middle.l1:Nat → List Int → List (S50) → Int → Int → Int → ByteArray → ByteArray → ByteArray → ByteArray → ByteArray → ByteArray → ByteArray → ByteArray → Option (ByteArray × ByteArray × Bool)
 | 0,_,_,_,_,_,_,_,_,_,_,_,_,_=>none
 | k + 1,x6,x7,x8,x11,x13,x559000,x559001,x560000,x560001,x560002,x560003,x560004,x560005=>if x13 < (x7.length:Int) then (if 0 ≤ x13 then (if (((((rd_T50 x7 x13).f0.f0).toList) == x560000.toList && ((((rd_T50 x7 x13).f0.f1).toList) == x560001.toList)) && (((((rd_T50 x7 x13).f1.f0).toList) == x560002.toList && ((((rd_T50 x7 x13).f1.f1).toList) == x560003.toList)) && (((((rd_T50 x7 x13).f2.f0).toList) == x560004.toList && ((((rd_T50 x7 x13).f2.f1).toList) == x560005.toList))))) = true then (if x13 ≤ (x6.length:Int) then ((spec_l06Told.f k (strOfNums (x6.take (x13:Int).toNat)) (strOfNums (x6.drop (x13:Int).toNat))).bind fun bt594=>(some (bt594.1,bt594.2.1,bt594.2.2))) else (none)) else (spec_l06Middle.l1 k x6 x7 x8 x11 (wrap64 (x13 + 1)) x559000 x559001 x560000 x560001 x560002 x560003 x560004 x560005)) else (none)) else (if x7.length < 1466015503701 then (if x6.length < 140737488355328 then (spec_l06Middle.l2 k (x6 ++ [x11]) (x7 ++ [(⟨(⟨x560000,x560001⟩:S25),(⟨x560002,x560003⟩:S25),(⟨x560004,x560005⟩:S25)⟩:S50)]) x8 x11 0 x559000 x559001 x560000 x560001 x560002 x560003 x560004 x560005) else (none)) else (none))
def spec_l06Middle.l2:Nat → List Int → List (S50) → Int → Int → Int → ByteArray → ByteArray → ByteArray → ByteArray → ByteArray → ByteArray → ByteArray → ByteArray → Option (ByteArray × ByteArray × Bool)
 | 0,_,_,_,_,_,_,_,_,_,_,_,_,_=>none
 | k + 1,x6,x7,x8,x11,x14,x559000,x559001,x560000,x560001,x560002,x560003,x560004,x560005=>if x14 < 3 then (if x14 = 0 then ((spec_l01At.f x560000 x560001 0).bind fun t603=>(if t603 = x11 then ((spec_l01Shift.f x560000 x560001).bind fun bt604=>(spec_l06Middle.l2 k x6 x7 x8 x11 (0 + 1) x559000 x559001 bt604.1 bt604.2 x560002 x560003 x560004 x560005)) else (if t603 = 42 then ((spec_l01Shift.f x560000 x560001).bind fun bt606=>(spec_l06Middle.l2 k x6 x7 x8 x11 (0 + 1) x559000 x559001 bt606.1 bt606.2 x560002 x560003 x560004 x560005)) else (spec_l06Middle.l2 k x6 x7 x8 x11 (0 + 1) x559000 x559001 x559000 x559001 x560002 x560003 x560004 x560005)))) else (if x14 = 1 then ((spec_l01At.f x560002 x560003 0).bind fun t608=>(if t608 = x11 then ((spec_l01Shift.f x560002 x560003).bind fun bt609=>(spec_l06Middle.l2 k x6 x7 x8 x11 (1 + 1) x559000 x559001 x560000 x560001 bt609.1 bt609.2 x560004 x560005)) else (if t608 = 42 then ((spec_l01Shift.f x560002 x560003).bind fun bt611=>(spec_l06Middle.l2 k x6 x7 x8 x11 (1 + 1) x559000 x559001 x560000 x560001 bt611.1 bt611.2 x560004 x560005)) else (spec_l06Middle.l2 k x6 x7 x8 x11 (1 + 1) x559000 x559001 x560000 x560001 x559000 x559001 x560004 x560005)))) else (if x14 = 2 then ((spec_l01At.f x560004 x560005 0).bind fun t613=>(if t613 = x11 then ((spec_l01Shift.f x560004 x560005).bind fun bt614=>(spec_l06Middle.l2 k x6 x7 x8 x11 (2 + 1) x559000 x559001 x560000 x560001 x560002 x560003 bt614.1 bt614.2)) else (if t613 = 42 then ((spec_l01Shift.f x560004 x560005).bind fun bt616=>(spec_l06Middle.l2 k x6 x7 x8 x11 (2 + 1) x559000 x559001 x560000 x560001 x560002 x560003 bt616.1 bt616.2)) else (spec_l06Middle.l2 k x6 x7 x8 x11 (2 + 1) x559000 x559001 x560000 x560001 x560002 x560003 x559000 x559001)))) else (none)))) else (spec_l06Middle.l0 k x6 x7 (wrap64 (x8 + 1)) x559000 x559001 x560000 x560001 x560002 x560003 x560004 x560005)
end
def spec_l06Middle.f (k:Nat) (a0_0:ByteArray) (a0_1:ByteArray) (a1_0:ByteArray) (a1_1:ByteArray) (a1_2:ByteArray) (a1_3:ByteArray) (a1_4:ByteArray) (a1_5:ByteArray):Option (ByteArray × ByteArray × Bool):=spec_l06Middle.l0 k (([]:List Int)) (([]:List (S50))) 0 a0_0 a0_1 a1_0 a1_1 a1_2 a1_3 a1_4 a1_5
theorem spec_l06Middle.mono_l:∀ k,(∀ y0 y1 y2 y3 y4 y5 y6 y7 y8 y9 y10,LeO (spec_l06Middle.l0 k y0 y1 y2 y3 y4 y5 y6 y7 y8 y9 y10) (spec_l06Middle.l0 (k + 1) y0 y1 y2 y3 y4 y5 y6 y7 y8 y9 y10)) ∧ (∀ y0 y1 y2 y3 y4 y5 y6 y7 y8 y9 y10 y11 y12,LeO (spec_l06Middle.l1 k y0 y1 y2 y3 y4 y5 y6 y7 y8 y9 y10 y11 y12) (spec_l06Middle.l1 (k + 1) y0 y1 y2 y3 y4 y5 y6 y7 y8 y9 y10 y11 y12)) ∧ (∀ y0 y1 y2 y3 y4 y5 y6 y7 y8 y9 y10 y11 y12,LeO (spec_l06Middle.l2 k y0 y1 y2 y3 y4 y5 y6 y7 y8 y9 y10 y11 y12) (spec_l06Middle.l2 (k + 1) y0 y1 y2 y3 y4 y5 y6 y7 y8 y9 y10 y11 y12))
 | 0=>⟨fun _ _ _ _ _ _ _ _ _ _ _ r h=>by simp [spec_l06Middle.l0] at h,fun _ _ _ _ _ _ _ _ _ _ _ _ _ r h=>by simp [spec_l06Middle.l1] at h,fun _ _ _ _ _ _ _ _ _ _ _ _ _ r h=>by simp [spec_l06Middle.l2] at h⟩
 | k + 1=>by
  obtain ⟨ih0,ih1,ih2⟩:=spec_l06Middle.mono_l k
  refine ⟨?_,?_,?_⟩
  ·intro y0 y1 y2 y3 y4 y5 y6 y7 y8 y9 y10
   unfold spec_l06Middle.l0
   repeat' first
   | (with_reducible exact ih0 _ _ _ _ _ _ _ _ _ _ _)
   | (with_reducible exact ih1 _ _ _ _ _ _ _ _ _ _ _ _ _)
   | (with_reducible exact ih2 _ _ _ _ _ _ _ _ _ _ _ _ _)
   | (with_reducible exact spec_l06Same.mono _ _ _ _ _ _ _)
   | (with_reducible exact spec_l06Told.mono _ _ _)
   | (with_reducible exact LeO.refl _)
   | (with_reducible exact LeO.none _)
   | (with_reducible refine LeO.ite ?_ ?_)
   | (with_reducible refine LeO.bind ?_ (fun _=>?_))
   | exact ih0 _ _ _ _ _ _ _ _ _ _ _
   | exact ih1 _ _ _ _ _ _ _ _ _ _ _ _ _
   | exact ih2 _ _ _ _ _ _ _ _ _ _ _ _ _
   | exact spec_l06Same.mono _ _ _ _ _ _ _
   | exact spec_l06Told.mono _ _ _
   | exact LeO.none _
   | refine LeO.ite ?_ ?_
   | refine LeO.bind ?_ (fun _=>?_)
  ·intro y0 y1 y2 y3 y4 y5 y6 y7 y8 y9 y10 y11 y12
   unfold spec_l06Middle.l1
   repeat' first
   | (with_reducible exact ih0 _ _ _ _ _ _ _ _ _ _ _)
   | (with_reducible exact ih1 _ _ _ _ _ _ _ _ _ _ _ _ _)
   | (with_reducible exact ih2 _ _ _ _ _ _ _ _ _ _ _ _ _)
   | (with_reducible exact spec_l06Same.mono _ _ _ _ _ _ _)
   | (with_reducible exact spec_l06Told.mono _ _ _)
   | (with_reducible exact LeO.refl _)
   | (with_reducible exact LeO.none _)
   | (with_reducible refine LeO.ite ?_ ?_)
   | (with_reducible refine LeO.bind ?_ (fun _=>?_))
   | exact ih0 _ _ _ _ _ _ _ _ _ _ _
   | exact ih1 _ _ _ _ _ _ _ _ _ _ _ _ _
   | exact ih2 _ _ _ _ _ _ _ _ _ _ _ _ _
   | exact spec_l06Same.mono _ _ _ _ _ _ _
   | exact spec_l06Told.mono _ _ _
   | exact LeO.none _
   | refine LeO.ite ?_ ?_
   | refine LeO.bind ?_ (fun _=>?_)
  ·intro y0 y1 y2 y3 y4 y5 y6 y7 y8 y9 y10 y11 y12
   unfold spec_l06Middle.l2
   repeat' first
   | (with_reducible exact ih0 _ _ _ _ _ _ _ _ _ _ _)
   | (with_reducible exact ih1 _ _ _ _ _ _ _ _ _ _ _ _ _)
   | (with_reducible exact ih2 _ _ _ _ _ _ _ _ _ _ _ _ _)
   | (with_reducible exact spec_l06Same.mono _ _ _ _ _ _ _)
   | (with_reducible exact spec_l06Told.mono _ _ _)
   | (with_reducible exact LeO.refl _)
   | (with_reducible exact LeO.none _)
   | (with_reducible refine LeO.ite ?_ ?_)
   | (with_reducible refine LeO.bind ?_ (fun _=>?_))
   | exact ih0 _ _ _ _ _ _ _ _ _ _ _
   | exact ih1 _ _ _ _ _ _ _ _ _ _ _ _ _
   | exact ih2 _ _ _ _ _ _ _ _ _ _ _ _ _
   | exact spec_l06Same.mono _ _ _ _ _ _ _
   | exact spec_l06Told.mono _ _ _
   | exact LeO.none _
   | refine LeO.ite ?_ ?_
   | refine LeO.bind ?_ (fun _=>?_)
theorem spec_l06Middle.mono:∀ a0 a1 a2 a3 a4 a5 a6 a7 k,LeO (spec_l06Middle.f k a0 a1 a2 a3 a4 a5 a6 a7) (spec_l06Middle.f (k + 1) a0 a1 a2 a3 a4 a5 a6 a7):=by
 intro a0 a1 a2 a3 a4 a5 a6 a7 k
 obtain ⟨ih0,ih1,ih2⟩:=spec_l06Middle.mono_l k
 unfold spec_l06Middle.f
 repeat' first
   | (with_reducible exact ih0 _ _ _ _ _ _ _ _ _ _ _)
   | (with_reducible exact ih1 _ _ _ _ _ _ _ _ _ _ _ _ _)
   | (with_reducible exact ih2 _ _ _ _ _ _ _ _ _ _ _ _ _)
   | (with_reducible exact spec_l06Same.mono _ _ _ _ _ _ _)
   | (with_reducible exact spec_l06Told.mono _ _ _)
   | (with_reducible exact LeO.refl _)
   | (with_reducible exact LeO.none _)
   | (with_reducible refine LeO.ite ?_ ?_)
   | (with_reducible refine LeO.bind ?_ (fun _=>?_))
   | exact ih0 _ _ _ _ _ _ _ _ _ _ _
   | exact ih1 _ _ _ _ _ _ _ _ _ _ _ _ _
   | exact ih2 _ _ _ _ _ _ _ _ _ _ _ _ _
   | exact spec_l06Same.mono _ _ _ _ _ _ _
   | exact spec_l06Told.mono _ _ _
   | exact LeO.none _
   | refine LeO.ite ?_ ?_
   | refine LeO.bind ?_ (fun _=>?_)
def spec_l06Middle.T10:Bool × List (List Nat × List Nat):=(true,[([],[]),([0],[0]),([],[]),([2],[2]),([3],[3]),([4],[4]),([1,5],[1,5]),([],[]),([7],[7]),([8],[8]),([9],[9]),([6,10],[6,10]),([11],[11]),([11],[11]),([12,11,0,1,2,3,4,5,6,7,8,9,10,11,12,13],[12]),([13,14,0,1,2,3,4,5,6,7,8,9,10,11,12,13,14],[13])])
def spec_l06Middle.B10:List Nat:=[0,1,0,4,12,28,63,0,128,384,896,2047,4095,4095,16383,32767]
theorem spec_l06Middle.tab10:rtab .any (opsOf Try.f34 10) = spec_l06Middle.T10:=by kernel_rfl
theorem spec_l06Middle.bits10:waitsOk spec_l06Middle.T10.2 spec_l06Middle.B10 = true:=by kernel_rfl
def spec_l06Middle.T15:Bool × List (List Nat × List Nat):=(true,[([],[]),([],[]),([0,1],[0,1]),([2],[2]),([],[]),([],[]),([4,5],[4,5]),([6],[6]),([3,7],[3,7]),([8],[8]),([8],[8]),([9,8,0,1,2,3,4,5,6,7,8,9,10],[9]),([10,11,0,1,2,3,4,5,6,7,8,9,10,11],[10])])
def spec_l06Middle.B15:List Nat:=[0,0,3,7,0,0,48,112,255,511,511,2047,4095]
theorem spec_l06Middle.tab15:rtab .any (opsOf Try.f34 15) = spec_l06Middle.T15:=by kernel_rfl
theorem spec_l06Middle.bits15:waitsOk spec_l06Middle.T15.2 spec_l06Middle.B15 = true:=by kernel_rfl
set_option maxHeartbeats 8000000 in
set_option maxRecDepth 100000 in
theorem spec_l06Middle.calls (k:Nat) (a0_0:ByteArray) (a0_1:ByteArray) (a1_0:ByteArray) (a1_1:ByteArray) (a1_2:ByteArray) (a1_3:ByteArray) (a1_4:ByteArray) (a1_5:ByteArray) (r1:ByteArray) (r2:ByteArray) (r3:Bool) (w:World) (h:spec_l06Middle.f k a0_0 a0_1 a1_0 a1_1 a1_2 a1_3 a1_4 a1_5 = some (r1,r2,r3)) :
  Calls Try.prog 34 #[.agg #[.string a0_0,.string a0_1],.agg #[.string a1_0,.string a1_1,.string a1_2,.string a1_3,.string a1_4,.string a1_5]] w fun e w'=>e = .returned (.tuple #[.agg #[.string r1,.string r2],.bool r3]) ∧ Below w.heap.size w w':=by
 have hu25:=Try.underlying25
 have hu50:=Try.underlying50
 have HB:=aM (Below.refl w.heap.size w)
 have H:(spec_l06Middle.l0 k (([]:List Int)) (([]:List (S50))) 0 a0_0 a0_1 a1_0 a1_1 a1_2 a1_3 a1_4 a1_5) = some (r1,r2,r3):=h
 clear h
 obtain ⟨y561,hy561⟩:∃ y_:List Int,y_ = (([]:List Int)):=⟨_,rfl⟩
 replace H:(spec_l06Middle.l0 k y561 (([]:List (S50))) 0 a0_0 a0_1 a1_0 a1_1 a1_2 a1_3 a1_4 a1_5) = some (r1,r2,r3):=by first|(rw [hy561];with_reducible exact H)|(have H2_:=(Option.bind_some _ _).symm.trans H;rw [hy561];with_reducible exact H2_)|(have H2_:=(Option.bind_some _ _).symm.trans H;with_reducible exact H2_)|with_reducible exact H|(rw [hy561];exact H)|exact H
 have Ny561:=aM hy561
 clear hy561
 obtain ⟨y564,hy564⟩:∃ y_:List (S50),y_ = (([]:List (S50))):=⟨_,rfl⟩
 replace H:(spec_l06Middle.l0 k y561 y564 0 a0_0 a0_1 a1_0 a1_1 a1_2 a1_3 a1_4 a1_5) = some (r1,r2,r3):=by first|(rw [hy564];with_reducible exact H)|(have H2_:=(Option.bind_some _ _).symm.trans H;rw [hy564];with_reducible exact H2_)|(have H2_:=(Option.bind_some _ _).symm.trans H;with_reducible exact H2_)|with_reducible exact H|(rw [hy564];exact H)|exact H
 have Ny564:=aM hy564
 clear hy564
 have H':=aM H
 clear H
 go_enter Try.func34,Try.ntmps34
 go_wp2_with (first|((with_reducible refine gate_dst (N:=2) rfl ?_);refine box_event rfl (N:=2) rfl (cs:=#[.string a0_0,.string a0_1]) (t:=25) (by first|(go_simp;done)|(go_simp;rfl)) ?_;intro gb558 hg w3 hbox hb;have BK558:=aM (hbox);have GW558:=wl hg HB;have GE558:=wl hg HB;replace HB:=bs HB hb;clear hb hbox hg)|((with_reducible refine gate_dst (N:=3) rfl ?_);refine box_event rfl (N:=3) rfl (cs:=#[.string a1_0,.string a1_1,.string a1_2,.string a1_3,.string a1_4,.string a1_5]) (t:=50) (by first|(go_simp;done)|(go_simp;rfl)) ?_;intro gb559 hg w4 hbox hb;have BK559:=aM (hbox);have GW559:=aM ((by rw [hg];exact (below_size (by first|exact bb HB|exact bg HB GE558)):w.heap.size ≤ gb559));have GE559:=aM ((by rw [hg];exact (below_size (by first|exact bb HB|exact bg HB GE558)):w.heap.size ≤ gb559));have NB558_559:=nl hg BK558;have NB559_558:=nr hg BK558;replace BK558:=kb BK558 hb;replace HB:=aM (below_step (by first|exact bb HB|exact bg HB GE558) hb);clear hb hbox hg)|((with_reducible refine gate_dst (N:=4) rfl ?_);refine box_event rfl (N:=4) rfl (cs:=#[.string ⟨#[]⟩,.string ⟨#[]⟩]) (t:=25) (by first|(go_simp;done)|(go_simp;rfl)) ?_;intro gb560 hg w5 hbox hb;have BK560:=aM (hbox);have GW560:=aM ((by rw [hg];exact (below_size (by first|exact bb HB|exact bg HB GE558|exact bg HB GE559)):w.heap.size ≤ gb560));have GE560:=aM ((by rw [hg];exact (below_size (by first|exact bb HB|exact bg HB GE558|exact bg HB GE559)):w.heap.size ≤ gb560));have NB558_560:=nl hg BK558;have NB560_558:=nr hg BK558;have NB559_560:=nl hg BK559;have NB560_559:=nr hg BK559;replace BK558:=kb BK558 hb;replace BK559:=kb BK559 hb;replace HB:=aM (below_step (by first|exact bb HB|exact bg HB GE558|exact bg HB GE559) hb);clear hb hbox hg)|((with_reducible refine gate_dst (N:=16) rfl ?_);refine Kd.R_lit (Kd.int .u8) _ 5 ?hg (N:=16) ?hd (xs:=([]:List Int)) (inner:=[]) (ok:=fun _=>True) (okp:=fun _=>True) ?hr ?hp (fun _ hk=>hk) trivial (Below.refl _ _) (Nat.le_refl _) (by simp) ?_;(case hd=>rfl);(case hg=>rfl);(case hr=>first|(go_simp;done)|(go_simp;rfl));(case hp=>exact (Reps.none _ _));intro v562 w6 ho7 hb hg_ hnew_;clear hg_ hnew_;(first|rw [← Ny561.out] at ho7|(simp only [Int.reduceToNat] at ho7;rw [← Ny561.out] at ho7));have HO563:=aM (Kd.R_lower ho7 (below_size (by first|exact bb HB|exact bg HB GE558|exact bg HB GE559|exact bg HB GE560)));replace BK558:=kb BK558 hb;replace BK559:=kb BK559 hb;replace BK560:=kb BK560 hb;replace HB:=aM (below_step (by first|exact bb HB|exact bg HB GE558|exact bg HB GE559|exact bg HB GE560) hb);clear hb ho7)|((with_reducible refine gate_dst (N:=17) rfl ?_);refine Kd.R_lit k50 _ 50 ?hg (N:=17) ?hd (xs:=([]:List (S50))) (inner:=[]) (ok:=fun _=>True) (okp:=fun _=>True) ?hr ?hp (fun _ hk=>hk) trivial (Below.refl _ _) (Nat.le_refl _) (by simp) ?_;(case hd=>rfl);(case hg=>rfl);(case hr=>first|(go_simp;done)|(go_simp;rfl));(case hp=>exact (Reps.none _ _));intro v565 w8 ho9 hb hg_ hnew_;clear hg_ hnew_;(first|rw [← Ny564.out] at ho9|(simp only [Int.reduceToNat] at ho9;rw [← Ny564.out] at ho9));have HO566:=aM (Kd.R_lower (Kd.R_newB ho9 (g:=gb559) (o:=.cells #[.string a1_0,.string a1_1,.string a1_2,.string a1_3,.string a1_4,.string a1_5] 50 (0,0)) (bk BK559)) (below_size (by first|exact bb HB|exact bg HB GE558|exact bg HB GE559|exact bg HB GE560)));replace HO563:=ko HO563 hb;replace BK558:=kb BK558 hb;replace BK559:=kb BK559 hb;replace BK560:=kb BK560 hb;replace HB:=aM (below_step (by first|exact bb HB|exact bg HB GE558|exact bg HB GE559|exact bg HB GE560) hb);clear hb ho9))
 go_loopg [6,7,8] k (fun kq v6 v7 v8 w'=>∃ (x6_1:List Int) (x7_1:List (S50)) (x8_1:Int) (x560000_1:ByteArray) (x560001_1:ByteArray) (x560002_1:ByteArray) (x560003_1:ByteArray) (x560004_1:ByteArray) (x560005_1:ByteArray) (x561000_1:ByteArray) (x561001_1:ByteArray),v8 = .int .i64 x8_1 ∧ Aside0 (spec_l06Middle.l0 kq x6_1 x7_1 x8_1 a0_0 a0_1 x560000_1 x560001_1 x560002_1 x560003_1 x560004_1 x560005_1 = some (r1,r2,r3)) ∧ Aside0 (kq ≤ k) ∧ Aside0 (Kd.R (Kd.int .u8) 5 w' w.heap.size (fun _=>True) v6 x6_1) ∧ Aside0 (Kd.R k50 50 w' w.heap.size (fun k_=>k_ ≠ gb559) v7 x7_1) ∧ Aside0 (w'.heap[gb558]? = some (.cells #[.string a0_0,.string a0_1] 25 (0,0))) ∧ Aside0 (w'.heap[gb559]? = some (.cells #[.string x560000_1,.string x560001_1,.string x560002_1,.string x560003_1,.string x560004_1,.string x560005_1] 50 (0,0))) ∧ Aside0 (w'.heap[gb560]? = some (.cells #[.string x561000_1,.string x561001_1] 25 (0,0))) ∧ Aside0 (Below w.heap.size w w'))
 case atStart=>exact ⟨(y561),(y564),(0),(a1_0),(a1_1),(a1_2),(a1_3),(a1_4),(a1_5),((⟨#[]⟩:ByteArray)),((⟨#[]⟩:ByteArray)),(by first|rfl|(simp;done)|(simp [*];done)),H',⟨Nat.le_refl _⟩,⟨rk HO563⟩,⟨by (with_reducible repeat (first|apply rA|apply rN|apply rD));exact Kd.R_mono HO566.out (fun _ hk=>hk.2)⟩,⟨bk BK558⟩,⟨bk BK559⟩,⟨bk BK560⟩,⟨by first|exact bb HB|exact bg HB GE558|exact bg HB GE559|exact bg HB GE560⟩⟩
 case round =>
  clear H'
  try clear p2
  try clear c3
  obtain ⟨x6_1,x7_1,x8_1,x560000_1,x560001_1,x560002_1,x560003_1,x560004_1,x560005_1,x561000_1,x561001_1,rfl,HA,HK1,HO_6,HO_7,BK558,BK559,BK560,HB⟩:=hrel
  cases gk with
  | zero=>exact absurd HA.out (by simp [spec_l06Middle.l0])
  | succ k1 =>
   have H:=HA.out
   clear HA
   simp only [spec_l06Middle.l0] at H
   by_cases c10:x8_1 ≤ 600
   ·rw [if_pos c10] at H
    have c10b0:decide (x8_1 ≤ 600) = true:=decide_eq_true c10
    clear c10
    replace H:=Option.bind_eq_some_iff.mp H
    obtain ⟨⟨t567,t568,t569⟩,A110,H⟩:=H
    replace H:(if t569 = true then (if (strOfNums x6_1).size + t567.size ≤ 9223372036854775807 then ((spec_l06Told.f k1 ((strOfNums x6_1) ++ t567) t568).bind fun bt571=>(some (bt571.1,bt571.2.1,bt571.2.2))) else (none)) else ((spec_l06Letters.f x560000_1 x560001_1 x560002_1 x560003_1 x560004_1 x560005_1).bind fun bt574=>(if bt574.2 ≥ 0 then (if bt574.2 = 0 then (if (strOfNums x6_1).size + x560000_1.size ≤ 9223372036854775807 then ((spec_l06Told.f k1 ((strOfNums x6_1) ++ x560000_1) x560001_1).bind fun bt576=>(some (bt576.1,bt576.2.1,bt576.2.2))) else (none)) else (if bt574.2 = 1 then (if (strOfNums x6_1).size + x560002_1.size ≤ 9223372036854775807 then ((spec_l06Told.f k1 ((strOfNums x6_1) ++ x560002_1) x560003_1).bind fun bt579=>(some (bt579.1,bt579.2.1,bt579.2.2))) else (none)) else (if bt574.2 = 2 then (if (strOfNums x6_1).size + x560004_1.size ≤ 9223372036854775807 then ((spec_l06Told.f k1 ((strOfNums x6_1) ++ x560004_1) x560005_1).bind fun bt582=>(some (bt582.1,bt582.2.1,bt582.2.2))) else (none)) else (none)))) else (spec_l06Middle.l1 k1 x6_1 x7_1 x8_1 bt574.1 0 a0_0 a0_1 x560000_1 x560001_1 x560002_1 x560003_1 x560004_1 x560005_1)))) = some (r1,r2,r3):=H;have A11:=aM A110
    clear A110
    by_cases c12:t569 = true
    ·subst c12
     have H1:(if (strOfNums x6_1).size + t567.size ≤ 9223372036854775807 then ((spec_l06Told.f k1 ((strOfNums x6_1) ++ t567) t568).bind fun bt571=>(some (bt571.1,bt571.2.1,bt571.2.2))) else (none)) = some (r1,r2,r3):=by rw [if_pos rfl] at H;exact H
     clear H
     have H:=H1
     clear H1
     by_cases c13:(strOfNums x6_1).size + t567.size ≤ 9223372036854775807
     ·rw [if_pos c13] at H
      have c13b0:=eq_true c13
      have c13b1:decide ((strOfNums x6_1).size + t567.size ≤ 9223372036854775807) = true:=decide_eq_true c13
      try have c13b2:(9223372036854775807 < (strOfNums x6_1).size + t567.size) = False:=eq_false (Nat.not_lt.2 c13)
      replace H:=Option.bind_eq_some_iff.mp H
      obtain ⟨⟨t571,t572,t573⟩,A140,H⟩:=H
      replace H:(some (t571,t572,t573)) = some (r1,r2,r3):=H;have A14:=aM A140
      clear A140
      simp only [Option.some.injEq,Prod.mk.injEq] at H
      obtain ⟨rfl,rfl,rfl⟩:=H
      have hnb15:=NB559_558.out
      have hnc15:=NB558_559.out
      have hnb16:=NB559_560.out
      have hnc16:=NB560_559.out
      have⟨a0,a1,a2,a3,a4,a5,b0,b1,b2,b3,b4,b5⟩:=q6f BK559
      go_wp2_with (first|((with_reducible refine gate_callee (f:=55) rfl ?_);refine goesL_ (some 24) rfl rfl Try.func55 (by kernel_rfl) rfl #[.agg #[.string x560000_1,.string x560001_1,.string x560002_1,.string x560003_1,.string x560004_1,.string x560005_1]] rfl (by (try simp only [sM,sC,sN]);first|done|rfl) ?_;(with_reducible refine (spec_l06Same.calls k1 x560000_1 x560001_1 x560002_1 x560003_1 x560004_1 x560005_1 t567 t568 true _ A11.out).mono ?_);rintro e w18 ⟨rfl,hb⟩;refine ⟨_,rfl,?_⟩;replace HO_6:=ko HO_6 hb;replace HO_7:=ko HO_7 hb;replace BK558:=kb BK558 hb;replace BK559:=kb BK559 hb;replace BK560:=kb BK560 hb;replace HB:=aM (below_step (by first|exact bb HB|exact bg HB GE558|exact bg HB GE559|exact bg HB GE560) hb);(try clear hb))|((with_reducible refine gate_dst (N:=9) rfl ?_);refine box_event rfl (N:=9) rfl (cs:=#[.string ⟨#[]⟩,.string ⟨#[]⟩]) (t:=25) (by first|(go_simp;done)|(go_simp;rfl)) ?_;intro gb570 hg w19 hbox hb;have BK570:=aM (hbox);have GW570:=aM ((by rw [hg];exact (below_size (by first|exact bb HB|exact bg HB GE558|exact bg HB GE559|exact bg HB GE560)):w.heap.size ≤ gb570));have GE570:=aM ((by rw [hg];exact (below_size (by first|exact bb HB|exact bg HB GE558|exact bg HB GE559|exact bg HB GE560)):w.heap.size ≤ gb570));have NB558_570:=nl hg BK558;have NB570_558:=nr hg BK558;have NB559_570:=nl hg BK559;have NB570_559:=nr hg BK559;have NB560_570:=nl hg BK560;have NB570_560:=nr hg BK560;replace HO_6:=ko HO_6 hb;replace HO_7:=ko HO_7 hb;replace BK558:=kb BK558 hb;replace BK559:=kb BK559 hb;replace BK560:=kb BK560 hb;replace HB:=aM (below_step (by first|exact bb HB|exact bg HB GE558|exact bg HB GE559|exact bg HB GE560) hb);clear hb hbox hg;have hnb20:=NB570_558.out;have hnc20:=NB558_570.out;have hnb21:=NB570_559.out;have hnc21:=NB559_570.out;have hnb22:=NB570_560.out;have hnc22:=NB560_570.out;have⟨a0,a1,b0,b1⟩:=q2f BK570;have hcv24:=own_string (P:=Try.prog) Try.underlying22 Try.underlying5 Try.underlying9 (Kd.own_of_R (Kd.R_set (Kd.R_set HO_6.out BK570.out (by decide) 0 (.string t567)) (blk_put (cs':=#[.string t567,.string ⟨#[]⟩]) BK570.out 0 (.string t567) rfl) (by decide) 1 (.string t568))))|((with_reducible refine gate_callee (f:=56) rfl ?_);refine goesL_ (some 35) rfl rfl Try.func56 (by kernel_rfl) rfl #[.string ((strOfNums x6_1) ++ t567),.string t568] rfl (by (try simp only [sM,sC,sN]);first|done|rfl) ?_;(with_reducible refine (spec_l06Told.calls k1 ((strOfNums x6_1) ++ t567) t568 t571 t572 t573 _ A14.out).mono ?_);rintro e w25 ⟨rfl,hb⟩;refine ⟨_,rfl,?_⟩;replace HO_6:=aM (Kd.R_below (by (with_reducible repeat (first|apply rA|apply rN|apply rD));exact (Kd.R_mono (Kd.R_far (p:=⟨gb570,1,none⟩) (Kd.R_far (p:=⟨gb570,0,none⟩) (Kd.R_types HO_6.out BK570.out (by decide)) (fun _ hk=>hk.2) (.string t567)) (fun _ hk=>hk.2) (.string t568)) (fun _ h_=>h_.1))) hb);replace HO_7:=aM (Kd.R_below (by (with_reducible repeat (first|apply rA|apply rN|apply rD));exact (Kd.R_mono (Kd.R_far (p:=⟨gb570,1,none⟩) (Kd.R_far (p:=⟨gb570,0,none⟩) (Kd.R_types HO_7.out BK570.out (by decide)) (fun _ hk=>hk.2) (.string t567)) (fun _ hk=>hk.2) (.string t568)) (fun _ h_=>h_.1))) hb);replace BK558:=kf BK558 NB558_570 hb;replace BK559:=kf BK559 NB559_570 hb;replace BK560:=kf BK560 NB560_570 hb;replace BK570:=aM (blk_below (g:=gb570) (o:=.cells #[.string t567,.string t568] 25 (0,0)) (by (with_reducible repeat (first|apply yN|apply yD|apply yA));refine blk_put (cs:=#[.string t567,.string ⟨#[]⟩]) ?_ 1 _ rfl;(with_reducible repeat (first|apply yN|apply yD|apply yA));refine blk_put (cs:=#[.string ⟨#[]⟩,.string ⟨#[]⟩]) ?_ 0 _ rfl;(with_reducible repeat (first|apply yN|apply yD|apply yA));exact BK570.out) hb);replace HB:=aM (below_step (by first|exact bb HB|exact bg HB GE558|exact bg HB GE559|exact bg HB GE560|exact bg HB GE570) hb);(try clear hb);have hnb26:=NB560_558.out;have hnc26:=NB558_560.out;have⟨a0,a1,b0,b1⟩:=q2f BK560))
      refine bodyPost_ret (results_ct rfl _ _ gb560 25 #[.string t571,.string t572] (0,0) _ rfl (by (with_reducible repeat (first|apply yN|apply yD|apply yA));refine blk_put (cs:=#[.string t571,.string x561001_1]) ?_ 1 _ rfl;(with_reducible repeat (first|apply yN|apply yD|apply yA));refine blk_put (cs:=#[.string x561000_1,.string x561001_1]) ?_ 0 _ rfl;(with_reducible repeat (first|apply yN|apply yD|apply yA));exact BK560.out) Try.underlying25 rfl (by kernel_rfl)) rfl ?_
      exact ⟨rfl,by first|exact bb HB|exact bg HB GE558|exact bg HB GE559|exact bg HB GE560|exact bg HB GE570⟩
     ·rw [if_neg c13] at H
      exact absurd H (by simp)
    ·replace c12:=Bool.eq_false_iff.mpr c12
     subst c12
     have H1:((spec_l06Letters.f x560000_1 x560001_1 x560002_1 x560003_1 x560004_1 x560005_1).bind fun bt574=>(if bt574.2 ≥ 0 then (if bt574.2 = 0 then (if (strOfNums x6_1).size + x560000_1.size ≤ 9223372036854775807 then ((spec_l06Told.f k1 ((strOfNums x6_1) ++ x560000_1) x560001_1).bind fun bt576=>(some (bt576.1,bt576.2.1,bt576.2.2))) else (none)) else (if bt574.2 = 1 then (if (strOfNums x6_1).size + x560002_1.size ≤ 9223372036854775807 then ((spec_l06Told.f k1 ((strOfNums x6_1) ++ x560002_1) x560003_1).bind fun bt579=>(some (bt579.1,bt579.2.1,bt579.2.2))) else (none)) else (if bt574.2 = 2 then (if (strOfNums x6_1).size + x560004_1.size ≤ 9223372036854775807 then ((spec_l06Told.f k1 ((strOfNums x6_1) ++ x560004_1) x560005_1).bind fun bt582=>(some (bt582.1,bt582.2.1,bt582.2.2))) else (none)) else (none)))) else (spec_l06Middle.l1 k1 x6_1 x7_1 x8_1 bt574.1 0 a0_0 a0_1 x560000_1 x560001_1 x560002_1 x560003_1 x560004_1 x560005_1))) = some (r1,r2,r3):=by rw [if_neg (show ¬ (false = true) by decide)] at H;exact H
     clear H
     have H:=H1
     clear H1
     replace H:=Option.bind_eq_some_iff.mp H
     obtain ⟨⟨t574,t575⟩,A280,H⟩:=H
     replace H:(if t575 ≥ 0 then (if t575 = 0 then (if (strOfNums x6_1).size + x560000_1.size ≤ 9223372036854775807 then ((spec_l06Told.f k1 ((strOfNums x6_1) ++ x560000_1) x560001_1).bind fun bt576=>(some (bt576.1,bt576.2.1,bt576.2.2))) else (none)) else (if t575 = 1 then (if (strOfNums x6_1).size + x560002_1.size ≤ 9223372036854775807 then ((spec_l06Told.f k1 ((strOfNums x6_1) ++ x560002_1) x560003_1).bind fun bt579=>(some (bt579.1,bt579.2.1,bt579.2.2))) else (none)) else (if t575 = 2 then (if (strOfNums x6_1).size + x560004_1.size ≤ 9223372036854775807 then ((spec_l06Told.f k1 ((strOfNums x6_1) ++ x560004_1) x560005_1).bind fun bt582=>(some (bt582.1,bt582.2.1,bt582.2.2))) else (none)) else (none)))) else (spec_l06Middle.l1 k1 x6_1 x7_1 x8_1 t574 0 a0_0 a0_1 x560000_1 x560001_1 x560002_1 x560003_1 x560004_1 x560005_1)) = some (r1,r2,r3):=H;have A28:=aM A280
     clear A280
     by_cases c29:t575 ≥ 0
     ·rw [if_pos c29] at H
      have c29b0:decide (0 ≤ t575) = true:=decide_eq_true c29
      clear c29
      by_cases c30:t575 = 0
      ·subst c30
       have H1:(if (strOfNums x6_1).size + x560000_1.size ≤ 9223372036854775807 then ((spec_l06Told.f k1 ((strOfNums x6_1) ++ x560000_1) x560001_1).bind fun bt576=>(some (bt576.1,bt576.2.1,bt576.2.2))) else (none)) = some (r1,r2,r3):=by rw [if_pos rfl] at H;exact H
       clear H
       have H:=H1
       clear H1
       by_cases c31:(strOfNums x6_1).size + x560000_1.size ≤ 9223372036854775807
       ·rw [if_pos c31] at H
        have c31b0:=eq_true c31
        have c31b1:decide ((strOfNums x6_1).size + x560000_1.size ≤ 9223372036854775807) = true:=decide_eq_true c31
        try have c31b2:(9223372036854775807 < (strOfNums x6_1).size + x560000_1.size) = False:=eq_false (Nat.not_lt.2 c31)
        replace H:=Option.bind_eq_some_iff.mp H
        obtain ⟨⟨t576,t577,t578⟩,A320,H⟩:=H
        replace H:(some (t576,t577,t578)) = some (r1,r2,r3):=H;have A32:=aM A320
        clear A320
        simp only [Option.some.injEq,Prod.mk.injEq] at H
        obtain ⟨rfl,rfl,rfl⟩:=H
        have hnb33:=NB559_558.out
        have hnc33:=NB558_559.out
        have hnb34:=NB559_560.out
        have hnc34:=NB560_559.out
        have⟨a0,a1,a2,a3,a4,a5,b0,b1,b2,b3,b4,b5⟩:=q6f BK559
        try go_wp2_with (first|((with_reducible refine gate_callee (f:=55) rfl ?_);refine goesL_ (some 24) rfl rfl Try.func55 (by kernel_rfl) rfl #[.agg #[.string x560000_1,.string x560001_1,.string x560002_1,.string x560003_1,.string x560004_1,.string x560005_1]] rfl (by (try simp only [sM,sC,sN]);first|done|rfl) ?_;(with_reducible refine (spec_l06Same.calls k1 x560000_1 x560001_1 x560002_1 x560003_1 x560004_1 x560005_1 t567 t568 false _ A11.out).mono ?_);rintro e w36 ⟨rfl,hb⟩;refine ⟨_,rfl,?_⟩;replace HO_6:=ko HO_6 hb;replace HO_7:=ko HO_7 hb;replace BK558:=kb BK558 hb;replace BK559:=kb BK559 hb;replace BK560:=kb BK560 hb;replace HB:=aM (below_step (by first|exact bb HB|exact bg HB GE558|exact bg HB GE559|exact bg HB GE560) hb);(try clear hb))|((with_reducible refine gate_dst (N:=9) rfl ?_);refine box_event rfl (N:=9) rfl (cs:=#[.string ⟨#[]⟩,.string ⟨#[]⟩]) (t:=25) (by first|(go_simp;done)|(go_simp;rfl)) ?_;intro gb570 hg w37 hbox hb;have BK570:=aM (hbox);have GW570:=aM ((by rw [hg];exact (below_size (by first|exact bb HB|exact bg HB GE558|exact bg HB GE559|exact bg HB GE560)):w.heap.size ≤ gb570));have GE570:=aM ((by rw [hg];exact (below_size (by first|exact bb HB|exact bg HB GE558|exact bg HB GE559|exact bg HB GE560)):w.heap.size ≤ gb570));have NB558_570:=nl hg BK558;have NB570_558:=nr hg BK558;have NB559_570:=nl hg BK559;have NB570_559:=nr hg BK559;have NB560_570:=nl hg BK560;have NB570_560:=nr hg BK560;replace HO_6:=ko HO_6 hb;replace HO_7:=ko HO_7 hb;replace BK558:=kb BK558 hb;replace BK559:=kb BK559 hb;replace BK560:=kb BK560 hb;replace HB:=aM (below_step (by first|exact bb HB|exact bg HB GE558|exact bg HB GE559|exact bg HB GE560) hb);clear hb hbox hg;have hnb38:=NB570_558.out;have hnc38:=NB558_570.out;have hnb39:=NB570_559.out;have hnc39:=NB559_570.out;have hnb40:=NB570_560.out;have hnc40:=NB560_570.out;have⟨a0,a1,b0,b1⟩:=q2f BK570;have⟨a0,a1,a2,a3,a4,a5,b0,b1,b2,b3,b4,b5⟩:=q6f BK559)|((with_reducible refine gate_callee (f:=57) rfl ?_);refine goesL_ (some 40) rfl rfl Try.func57 (by kernel_rfl) rfl #[.agg #[.string x560000_1,.string x560001_1,.string x560002_1,.string x560003_1,.string x560004_1,.string x560005_1]] rfl (by (try simp only [sM,sC,sN]);first|done|rfl) ?_;(with_reducible refine (spec_l06Letters.calls x560000_1 x560001_1 x560002_1 x560003_1 x560004_1 x560005_1 t574 0 _ A28.out).mono ?_);rintro e w43 ⟨rfl,hb⟩;refine ⟨_,rfl,?_⟩;replace HO_6:=aM (Kd.R_below (by (with_reducible repeat (first|apply rA|apply rN|apply rD));exact (Kd.R_mono (Kd.R_far (p:=⟨gb570,1,none⟩) (Kd.R_far (p:=⟨gb570,0,none⟩) (Kd.R_types HO_6.out BK570.out (by decide)) (fun _ hk=>hk.2) (.string t567)) (fun _ hk=>hk.2) (.string t568)) (fun _ h_=>h_.1))) hb);replace HO_7:=aM (Kd.R_below (by (with_reducible repeat (first|apply rA|apply rN|apply rD));exact (Kd.R_mono (Kd.R_far (p:=⟨gb570,1,none⟩) (Kd.R_far (p:=⟨gb570,0,none⟩) (Kd.R_types HO_7.out BK570.out (by decide)) (fun _ hk=>hk.2) (.string t567)) (fun _ hk=>hk.2) (.string t568)) (fun _ h_=>h_.1))) hb);replace BK558:=kf BK558 NB558_570 hb;replace BK559:=kf BK559 NB559_570 hb;replace BK560:=kf BK560 NB560_570 hb;replace BK570:=aM (blk_below (g:=gb570) (o:=.cells #[.string t567,.string t568] 25 (0,0)) (by (with_reducible repeat (first|apply yN|apply yD|apply yA));refine blk_put (cs:=#[.string t567,.string ⟨#[]⟩]) ?_ 1 _ rfl;(with_reducible repeat (first|apply yN|apply yD|apply yA));refine blk_put (cs:=#[.string ⟨#[]⟩,.string ⟨#[]⟩]) ?_ 0 _ rfl;(with_reducible repeat (first|apply yN|apply yD|apply yA));exact BK570.out) hb);replace HB:=aM (below_step (by first|exact bb HB|exact bg HB GE558|exact bg HB GE559|exact bg HB GE560|exact bg HB GE570) hb);(try clear hb)))
        replace HO_6:=aM (rD HO_6.out);replace HO_7:=aM (rD HO_7.out);replace BK558:=aM (yD BK558.out);replace BK559:=aM (yD BK559.out);replace BK560:=aM (yD BK560.out);replace BK570:=aM (yD BK570.out);replace HB:=aM (zD HB.out)
        have hcv45:=own_string (P:=Try.prog) Try.underlying22 Try.underlying5 Try.underlying9 (Kd.own_of_R HO_6.out)
        refine start_ (n:=16) (S:=fun w'=>w'.cell? ⟨gb559,0,none⟩ = some (.string x560000_1) ∧ w'.cell? ⟨gb559,1,none⟩ = some (.string x560001_1) ∧ w'.cell? ⟨gb559,2,none⟩ = some (.string x560002_1) ∧ w'.cell? ⟨gb559,3,none⟩ = some (.string x560003_1) ∧ w'.cell? ⟨gb559,4,none⟩ = some (.string x560004_1) ∧ w'.cell? ⟨gb559,5,none⟩ = some (.string x560005_1) ∧ (convert 22 9 u6).run Try.prog w' = .ok (.string (strOfNums x6_1)) w') (ds:=[14]) #[fF,fF,fF,fF,fF,fF,fF,fF,fF,fF,fF,fF,fF,fF,fF,fF] (by kernel_rfl) rfl rfl ⟨(blk_cell BK559.out 0).trans rfl,(blk_cell BK559.out 1).trans rfl,(blk_cell BK559.out 2).trans rfl,(blk_cell BK559.out 3).trans rfl,(blk_cell BK559.out 4).trans rfl,(blk_cell BK559.out 5).trans rfl,hcv45⟩ (fun hHeld=>?_);refine with_tabW spec_l06Middle.tab10 spec_l06Middle.bits10 (fun HT_ HW_=>?_)
        generalize w43.drew = w44 at HO_6 HO_7 BK558 BK559 BK560 BK570 HB hHeld ⊢
        refine pz 45 0 #[tT,fF,fF,fF,fF,fF,fF,fF,fF,fF,fF,fF,fF,fF,fF,fF] HT_ rfl rfl (by kernel_rfl) (fun _ _ _ h=>h) (by rfl) (by intro w';go_simp;with_reducible rfl) (by simp only [Act.put,sI,sZ,sS,i64_w,i32_w];rfl) ?_
        refine take_ (i:=1) (N:=some 46) (v:=?_) (a':=?_) #[tT,tT,fF,fF,fF,fF,fF,fF,fF,fF,fF,fF,fF,fF,fF,fF] rfl rfl (take_ofW HT_.out HW_.out (by kernel_rfl)) (fun _ _ _ h=>h) (Or.inl ⟨by rfl,?_⟩) hHeld ?_ ?_
        rotate_left
        ·rintro w' ⟨s0,s1,s2,s3,s4,s5,s6⟩
         first|(go_simp;rw [s6];rfl)|(go_simp;with_reducible rfl)|(simp only [s6];rfl)
        rotate_left
        ·simp only [Act.put,sI,sZ,sS,i64_w,i32_w]
         rfl
        refine pz 47 2 #[tT,tT,tT,fF,fF,fF,fF,fF,fF,fF,fF,fF,fF,fF,fF,fF] HT_ rfl rfl (by kernel_rfl) (fun _ _ _ h=>h) (by rfl) (by intro w';go_simp;with_reducible rfl) (by simp only [Act.put,sI,sZ,sS,i64_w,i32_w];rfl) ?_
        refine pz 48 3 #[tT,tT,tT,tT,fF,fF,fF,fF,fF,fF,fF,fF,fF,fF,fF,fF] HT_ rfl rfl (by kernel_rfl) (fun _ _ _ h=>h) (by rfl) (by intro w';go_simp;with_reducible rfl) (by simp only [Act.put,sI,sZ,sS,i64_w,i32_w];rfl) ?_
        refine pz 49 4 #[tT,tT,tT,tT,tT,fF,fF,fF,fF,fF,fF,fF,fF,fF,fF,fF] HT_ rfl rfl (by kernel_rfl) (fun _ _ _ h=>h) (by rfl) (by intro w';go_simp;with_reducible rfl) (by simp only [Act.put,sI,sZ,sS,i64_w,i32_w];rfl) ?_
        refine pz 52 7 #[tT,tT,tT,tT,tT,fF,fF,tT,fF,fF,fF,fF,fF,fF,fF,fF] HT_ rfl rfl (by kernel_rfl) (fun _ _ _ h=>h) (by rfl) (by intro w';go_simp;with_reducible rfl) (by simp only [Act.put,sI,sZ,sS,i64_w,i32_w];rfl) ?_
        refine pz 53 8 #[tT,tT,tT,tT,tT,fF,fF,tT,tT,fF,fF,fF,fF,fF,fF,fF] HT_ rfl rfl (by kernel_rfl) (fun _ _ _ h=>h) (by rfl) (by intro w';go_simp;with_reducible rfl) (by simp only [Act.put,sI,sZ,sS,i64_w,i32_w];rfl) ?_
        refine pz 54 9 #[tT,tT,tT,tT,tT,fF,fF,tT,tT,tT,fF,fF,fF,fF,fF,fF] HT_ rfl rfl (by kernel_rfl) (fun _ _ _ h=>h) (by rfl) (by intro w';go_simp;with_reducible rfl) (by simp only [Act.put,sI,sZ,sS,i64_w,i32_w];rfl) ?_
        refine tz 50 5 #[tT,tT,tT,tT,tT,tT,fF,tT,tT,tT,fF,fF,fF,fF,fF,fF] HT_ HW_ hHeld rfl rfl (by kernel_rfl) (fun _ _ _ h=>h) (by rfl) (by rintro w' ⟨s0,s1,s2,s3,s4,s5,s6⟩;go_simp;with_reducible rfl) (by simp only [Act.put,sI,sZ,sS,i64_w,i32_w];rfl) ?_
        refine pz 51 6 #[tT,tT,tT,tT,tT,tT,tT,tT,tT,tT,fF,fF,fF,fF,fF,fF] HT_ rfl rfl (by kernel_rfl) (fun _ _ _ h=>h) (by rfl) (by intro w';go_simp;with_reducible rfl) (by simp only [Act.put,sI,sZ,sS,i64_w,i32_w];rfl) ?_
        refine tz 55 10 #[tT,tT,tT,tT,tT,tT,tT,tT,tT,tT,tT,fF,fF,fF,fF,fF] HT_ HW_ hHeld rfl rfl (by kernel_rfl) (fun _ _ _ h=>h) (by rfl) (by rintro w' ⟨s0,s1,s2,s3,s4,s5,s6⟩;go_simp;with_reducible rfl) (by simp only [Act.put,sI,sZ,sS,i64_w,i32_w];rfl) ?_
        refine one_ (i:=11) (N:=some 56) #[tT,tT,tT,tT,tT,tT,tT,tT,tT,tT,tT,tT,fF,fF,fF,fF] rfl rfl (one_of HT_.out (by kernel_rfl)) (by decide) (fun K hK=>?_)
        refine goes_ Try.func56 (by kernel_rfl) rfl #[.string ((strOfNums x6_1) ++ x560000_1),.string x560001_1] (by rfl) rfl rfl (by (try simp only [sM,sC,sN]);first|done|rfl) ?_
        with_reducible refine (spec_l06Told.calls k1 ((strOfNums x6_1) ++ x560000_1) x560001_1 t576 t577 t578 _ A32.out).mono ?_
        rintro e w46 ⟨rfl,hb⟩
        refine ⟨_,rfl,?_⟩
        replace HO_6:=ko HO_6 hb;replace HO_7:=ko HO_7 hb;replace BK558:=kb BK558 hb;replace BK559:=kb BK559 hb;replace BK560:=kb BK560 hb;replace BK570:=kb BK570 hb;replace HB:=aM (below_step (by first|exact bb HB|exact bg HB GE558|exact bg HB GE559|exact bg HB GE560|exact bg HB GE570) hb);(try clear hb)
        refine hK.out _ _ ⟨(blk_cell BK559.out 0).trans rfl,(blk_cell BK559.out 1).trans rfl,(blk_cell BK559.out 2).trans rfl,(blk_cell BK559.out 3).trans rfl,(blk_cell BK559.out 4).trans rfl,(blk_cell BK559.out 5).trans rfl,own_string (P:=Try.prog) Try.underlying22 Try.underlying5 Try.underlying9 (Kd.own_of_R HO_6.out)⟩ (fun hHeld=>?_)
        clear hK K
        refine norm_ (a':=_) (by show Act.put _ _ _=_;simp only [Act.put,sI,sZ,sS,i64_w,i32_w];rfl) ?_
        refine pz 57 12 #[tT,tT,tT,tT,tT,tT,tT,tT,tT,tT,tT,tT,tT,fF,fF,fF] HT_ rfl rfl (by kernel_rfl) (fun _ _ _ h=>h) (by rfl) (by intro w';go_simp;with_reducible rfl) (by simp only [Act.put,sI,sZ,sS,i64_w,i32_w];rfl) ?_
        refine pz 58 13 #[tT,tT,tT,tT,tT,tT,tT,tT,tT,tT,tT,tT,tT,tT,fF,fF] HT_ rfl rfl (by kernel_rfl) (fun _ _ _ h=>h) (by rfl) (by intro w';go_simp;with_reducible rfl) (by simp only [Act.put,sI,sZ,sS,i64_w,i32_w];rfl) ?_
        refine last_ (i:=14) (N:=none) #[tT,tT,tT,tT,tT,tT,tT,tT,tT,tT,tT,tT,tT,tT,tT,fF] rfl rfl (one_of HT_.out (by kernel_rfl)) (by decide) (fun K hK=>?_)
        have hs47:w46.cell? ⟨gb560,0,none⟩ = some (.string x561000_1):=(blk_cell BK560.out 0).trans rfl
        have hfs47:=blk_frozen BK560.out 0
        have hns47_0:=NB558_560.out
        have hns47_1:=NB559_560.out
        have hns47_3:=NB570_560.out
        have hms47_0:=NB560_558.out
        have hms47_1:=NB560_559.out
        have hms47_3:=NB560_570.out
        have hs48:w46.cell? ⟨gb560,1,none⟩ = some (.string x561001_1):=(blk_cell BK560.out 1).trans rfl
        have hfs48:=blk_frozen BK560.out 1
        have hns48_0:=NB558_560.out
        have hns48_1:=NB559_560.out
        have hns48_3:=NB570_560.out
        have hms48_0:=NB560_558.out
        have hms48_1:=NB560_559.out
        have hms48_3:=NB560_570.out
        refine skip_ (w1:=?_) (by rfl) rfl ?_ ?_
        rotate_left
        ·go_simp
         rfl
        refine hK.out _ _ ?_
        clear hK K
        refine pz 5 15 #[tT,tT,tT,tT,tT,tT,tT,tT,tT,tT,tT,tT,tT,tT,tT,tT] HT_ rfl rfl (by kernel_rfl) (fun _ _ _ h=>h) (by rfl) (by intro w';go_simp;with_reducible rfl) (by simp only [Act.put,sI,sZ,sS,i64_w,i32_w];rfl) ?_
        refine done_ (done_of HT_.out (by kernel_rfl)) ?_
        try go_wp2
        refine bodyPost_ret (results_ct rfl _ _ gb560 25 #[.string t576,.string t577] (0,0) _ rfl (by (with_reducible repeat (first|apply yN|apply yD|apply yA));refine blk_put (cs:=#[.string t576,.string x561001_1]) ?_ 1 _ rfl;(with_reducible repeat (first|apply yN|apply yD|apply yA));refine blk_put (cs:=#[.string x561000_1,.string x561001_1]) ?_ 0 _ rfl;(with_reducible repeat (first|apply yN|apply yD|apply yA));exact BK560.out) Try.underlying25 rfl (by kernel_rfl)) rfl ?_
        exact ⟨rfl,by first|exact bb HB|exact bg HB GE558|exact bg HB GE559|exact bg HB GE560|exact bg HB GE570⟩
       ·rw [if_neg c31] at H
        exact absurd H (by simp)
      ·rw [if_neg c30] at H
       by_cases c49:t575 = 1
       ·subst c49
        have H1:(if (strOfNums x6_1).size + x560002_1.size ≤ 9223372036854775807 then ((spec_l06Told.f k1 ((strOfNums x6_1) ++ x560002_1) x560003_1).bind fun bt579=>(some (bt579.1,bt579.2.1,bt579.2.2))) else (none)) = some (r1,r2,r3):=by rw [if_pos rfl] at H;exact H
        clear H
        have H:=H1
        clear H1
        by_cases c50:(strOfNums x6_1).size + x560002_1.size ≤ 9223372036854775807
        ·rw [if_pos c50] at H
         have c50b0:=eq_true c50
         have c50b1:decide ((strOfNums x6_1).size + x560002_1.size ≤ 9223372036854775807) = true:=decide_eq_true c50
         try have c50b2:(9223372036854775807 < (strOfNums x6_1).size + x560002_1.size) = False:=eq_false (Nat.not_lt.2 c50)
         replace H:=Option.bind_eq_some_iff.mp H
         obtain ⟨⟨t579,t580,t581⟩,A510,H⟩:=H
         replace H:(some (t579,t580,t581)) = some (r1,r2,r3):=H;have A51:=aM A510
         clear A510
         simp only [Option.some.injEq,Prod.mk.injEq] at H
         obtain ⟨rfl,rfl,rfl⟩:=H
         have hnb52:=NB559_558.out
         have hnc52:=NB558_559.out
         have hnb53:=NB559_560.out
         have hnc53:=NB560_559.out
         have⟨a0,a1,a2,a3,a4,a5,b0,b1,b2,b3,b4,b5⟩:=q6f BK559
         try go_wp2_with (first|((with_reducible refine gate_callee (f:=55) rfl ?_);refine goesL_ (some 24) rfl rfl Try.func55 (by kernel_rfl) rfl #[.agg #[.string x560000_1,.string x560001_1,.string x560002_1,.string x560003_1,.string x560004_1,.string x560005_1]] rfl (by (try simp only [sM,sC,sN]);first|done|rfl) ?_;(with_reducible refine (spec_l06Same.calls k1 x560000_1 x560001_1 x560002_1 x560003_1 x560004_1 x560005_1 t567 t568 false _ A11.out).mono ?_);rintro e w55 ⟨rfl,hb⟩;refine ⟨_,rfl,?_⟩;replace HO_6:=ko HO_6 hb;replace HO_7:=ko HO_7 hb;replace BK558:=kb BK558 hb;replace BK559:=kb BK559 hb;replace BK560:=kb BK560 hb;replace HB:=aM (below_step (by first|exact bb HB|exact bg HB GE558|exact bg HB GE559|exact bg HB GE560) hb);(try clear hb))|((with_reducible refine gate_dst (N:=9) rfl ?_);refine box_event rfl (N:=9) rfl (cs:=#[.string ⟨#[]⟩,.string ⟨#[]⟩]) (t:=25) (by first|(go_simp;done)|(go_simp;rfl)) ?_;intro gb570 hg w56 hbox hb;have BK570:=aM (hbox);have GW570:=aM ((by rw [hg];exact (below_size (by first|exact bb HB|exact bg HB GE558|exact bg HB GE559|exact bg HB GE560)):w.heap.size ≤ gb570));have GE570:=aM ((by rw [hg];exact (below_size (by first|exact bb HB|exact bg HB GE558|exact bg HB GE559|exact bg HB GE560)):w.heap.size ≤ gb570));have NB558_570:=nl hg BK558;have NB570_558:=nr hg BK558;have NB559_570:=nl hg BK559;have NB570_559:=nr hg BK559;have NB560_570:=nl hg BK560;have NB570_560:=nr hg BK560;replace HO_6:=ko HO_6 hb;replace HO_7:=ko HO_7 hb;replace BK558:=kb BK558 hb;replace BK559:=kb BK559 hb;replace BK560:=kb BK560 hb;replace HB:=aM (below_step (by first|exact bb HB|exact bg HB GE558|exact bg HB GE559|exact bg HB GE560) hb);clear hb hbox hg;have hnb57:=NB570_558.out;have hnc57:=NB558_570.out;have hnb58:=NB570_559.out;have hnc58:=NB559_570.out;have hnb59:=NB570_560.out;have hnc59:=NB560_570.out;have⟨a0,a1,b0,b1⟩:=q2f BK570;have⟨a0,a1,a2,a3,a4,a5,b0,b1,b2,b3,b4,b5⟩:=q6f BK559)|((with_reducible refine gate_callee (f:=57) rfl ?_);refine goesL_ (some 40) rfl rfl Try.func57 (by kernel_rfl) rfl #[.agg #[.string x560000_1,.string x560001_1,.string x560002_1,.string x560003_1,.string x560004_1,.string x560005_1]] rfl (by (try simp only [sM,sC,sN]);first|done|rfl) ?_;(with_reducible refine (spec_l06Letters.calls x560000_1 x560001_1 x560002_1 x560003_1 x560004_1 x560005_1 t574 1 _ A28.out).mono ?_);rintro e w62 ⟨rfl,hb⟩;refine ⟨_,rfl,?_⟩;replace HO_6:=aM (Kd.R_below (by (with_reducible repeat (first|apply rA|apply rN|apply rD));exact (Kd.R_mono (Kd.R_far (p:=⟨gb570,1,none⟩) (Kd.R_far (p:=⟨gb570,0,none⟩) (Kd.R_types HO_6.out BK570.out (by decide)) (fun _ hk=>hk.2) (.string t567)) (fun _ hk=>hk.2) (.string t568)) (fun _ h_=>h_.1))) hb);replace HO_7:=aM (Kd.R_below (by (with_reducible repeat (first|apply rA|apply rN|apply rD));exact (Kd.R_mono (Kd.R_far (p:=⟨gb570,1,none⟩) (Kd.R_far (p:=⟨gb570,0,none⟩) (Kd.R_types HO_7.out BK570.out (by decide)) (fun _ hk=>hk.2) (.string t567)) (fun _ hk=>hk.2) (.string t568)) (fun _ h_=>h_.1))) hb);replace BK558:=kf BK558 NB558_570 hb;replace BK559:=kf BK559 NB559_570 hb;replace BK560:=kf BK560 NB560_570 hb;replace BK570:=aM (blk_below (g:=gb570) (o:=.cells #[.string t567,.string t568] 25 (0,0)) (by (with_reducible repeat (first|apply yN|apply yD|apply yA));refine blk_put (cs:=#[.string t567,.string ⟨#[]⟩]) ?_ 1 _ rfl;(with_reducible repeat (first|apply yN|apply yD|apply yA));refine blk_put (cs:=#[.string ⟨#[]⟩,.string ⟨#[]⟩]) ?_ 0 _ rfl;(with_reducible repeat (first|apply yN|apply yD|apply yA));exact BK570.out) hb);replace HB:=aM (below_step (by first|exact bb HB|exact bg HB GE558|exact bg HB GE559|exact bg HB GE560|exact bg HB GE570) hb);(try clear hb)))
         replace HO_6:=aM (rD HO_6.out);replace HO_7:=aM (rD HO_7.out);replace BK558:=aM (yD BK558.out);replace BK559:=aM (yD BK559.out);replace BK560:=aM (yD BK560.out);replace BK570:=aM (yD BK570.out);replace HB:=aM (zD HB.out)
         have hcv64:=own_string (P:=Try.prog) Try.underlying22 Try.underlying5 Try.underlying9 (Kd.own_of_R HO_6.out)
         refine start_ (n:=16) (S:=fun w'=>w'.cell? ⟨gb559,0,none⟩ = some (.string x560000_1) ∧ w'.cell? ⟨gb559,1,none⟩ = some (.string x560001_1) ∧ w'.cell? ⟨gb559,2,none⟩ = some (.string x560002_1) ∧ w'.cell? ⟨gb559,3,none⟩ = some (.string x560003_1) ∧ w'.cell? ⟨gb559,4,none⟩ = some (.string x560004_1) ∧ w'.cell? ⟨gb559,5,none⟩ = some (.string x560005_1) ∧ (convert 22 9 u6).run Try.prog w' = .ok (.string (strOfNums x6_1)) w') (ds:=[14]) #[fF,fF,fF,fF,fF,fF,fF,fF,fF,fF,fF,fF,fF,fF,fF,fF] (by kernel_rfl) rfl rfl ⟨(blk_cell BK559.out 0).trans rfl,(blk_cell BK559.out 1).trans rfl,(blk_cell BK559.out 2).trans rfl,(blk_cell BK559.out 3).trans rfl,(blk_cell BK559.out 4).trans rfl,(blk_cell BK559.out 5).trans rfl,hcv64⟩ (fun hHeld=>?_);refine with_tabW spec_l06Middle.tab10 spec_l06Middle.bits10 (fun HT_ HW_=>?_)
         generalize w62.drew = w63 at HO_6 HO_7 BK558 BK559 BK560 BK570 HB hHeld ⊢
         refine pz 45 0 #[tT,fF,fF,fF,fF,fF,fF,fF,fF,fF,fF,fF,fF,fF,fF,fF] HT_ rfl rfl (by kernel_rfl) (fun _ _ _ h=>h) (by rfl) (by intro w';go_simp;with_reducible rfl) (by simp only [Act.put,sI,sZ,sS,i64_w,i32_w];rfl) ?_
         refine take_ (i:=1) (N:=some 46) (v:=?_) (a':=?_) #[tT,tT,fF,fF,fF,fF,fF,fF,fF,fF,fF,fF,fF,fF,fF,fF] rfl rfl (take_ofW HT_.out HW_.out (by kernel_rfl)) (fun _ _ _ h=>h) (Or.inl ⟨by rfl,?_⟩) hHeld ?_ ?_
         rotate_left
         ·rintro w' ⟨s0,s1,s2,s3,s4,s5,s6⟩
          first|(go_simp;rw [s6];rfl)|(go_simp;with_reducible rfl)|(simp only [s6];rfl)
         rotate_left
         ·simp only [Act.put,sI,sZ,sS,i64_w,i32_w]
          rfl
         refine pz 47 2 #[tT,tT,tT,fF,fF,fF,fF,fF,fF,fF,fF,fF,fF,fF,fF,fF] HT_ rfl rfl (by kernel_rfl) (fun _ _ _ h=>h) (by rfl) (by intro w';go_simp;with_reducible rfl) (by simp only [Act.put,sI,sZ,sS,i64_w,i32_w];rfl) ?_
         refine pz 48 3 #[tT,tT,tT,tT,fF,fF,fF,fF,fF,fF,fF,fF,fF,fF,fF,fF] HT_ rfl rfl (by kernel_rfl) (fun _ _ _ h=>h) (by rfl) (by intro w';go_simp;with_reducible rfl) (by simp only [Act.put,sI,sZ,sS,i64_w,i32_w];rfl) ?_
         refine pz 49 4 #[tT,tT,tT,tT,tT,fF,fF,fF,fF,fF,fF,fF,fF,fF,fF,fF] HT_ rfl rfl (by kernel_rfl) (fun _ _ _ h=>h) (by rfl) (by intro w';go_simp;with_reducible rfl) (by simp only [Act.put,sI,sZ,sS,i64_w,i32_w];rfl) ?_
         refine pz 52 7 #[tT,tT,tT,tT,tT,fF,fF,tT,fF,fF,fF,fF,fF,fF,fF,fF] HT_ rfl rfl (by kernel_rfl) (fun _ _ _ h=>h) (by rfl) (by intro w';go_simp;with_reducible rfl) (by simp only [Act.put,sI,sZ,sS,i64_w,i32_w];rfl) ?_
         refine pz 53 8 #[tT,tT,tT,tT,tT,fF,fF,tT,tT,fF,fF,fF,fF,fF,fF,fF] HT_ rfl rfl (by kernel_rfl) (fun _ _ _ h=>h) (by rfl) (by intro w';go_simp;with_reducible rfl) (by simp only [Act.put,sI,sZ,sS,i64_w,i32_w];rfl) ?_
         refine pz 54 9 #[tT,tT,tT,tT,tT,fF,fF,tT,tT,tT,fF,fF,fF,fF,fF,fF] HT_ rfl rfl (by kernel_rfl) (fun _ _ _ h=>h) (by rfl) (by intro w';go_simp;with_reducible rfl) (by simp only [Act.put,sI,sZ,sS,i64_w,i32_w];rfl) ?_
         refine tz 50 5 #[tT,tT,tT,tT,tT,tT,fF,tT,tT,tT,fF,fF,fF,fF,fF,fF] HT_ HW_ hHeld rfl rfl (by kernel_rfl) (fun _ _ _ h=>h) (by rfl) (by rintro w' ⟨s0,s1,s2,s3,s4,s5,s6⟩;go_simp;with_reducible rfl) (by simp only [Act.put,sI,sZ,sS,i64_w,i32_w];rfl) ?_
         refine pz 51 6 #[tT,tT,tT,tT,tT,tT,tT,tT,tT,tT,fF,fF,fF,fF,fF,fF] HT_ rfl rfl (by kernel_rfl) (fun _ _ _ h=>h) (by rfl) (by intro w';go_simp;with_reducible rfl) (by simp only [Act.put,sI,sZ,sS,i64_w,i32_w];rfl) ?_
         refine tz 55 10 #[tT,tT,tT,tT,tT,tT,tT,tT,tT,tT,tT,fF,fF,fF,fF,fF] HT_ HW_ hHeld rfl rfl (by kernel_rfl) (fun _ _ _ h=>h) (by rfl) (by rintro w' ⟨s0,s1,s2,s3,s4,s5,s6⟩;go_simp;with_reducible rfl) (by simp only [Act.put,sI,sZ,sS,i64_w,i32_w];rfl) ?_
         refine one_ (i:=11) (N:=some 56) #[tT,tT,tT,tT,tT,tT,tT,tT,tT,tT,tT,tT,fF,fF,fF,fF] rfl rfl (one_of HT_.out (by kernel_rfl)) (by decide) (fun K hK=>?_)
         refine goes_ Try.func56 (by kernel_rfl) rfl #[.string ((strOfNums x6_1) ++ x560002_1),.string x560003_1] (by rfl) rfl rfl (by (try simp only [sM,sC,sN]);first|done|rfl) ?_
         with_reducible refine (spec_l06Told.calls k1 ((strOfNums x6_1) ++ x560002_1) x560003_1 t579 t580 t581 _ A51.out).mono ?_
         rintro e w65 ⟨rfl,hb⟩
         refine ⟨_,rfl,?_⟩
         replace HO_6:=ko HO_6 hb;replace HO_7:=ko HO_7 hb;replace BK558:=kb BK558 hb;replace BK559:=kb BK559 hb;replace BK560:=kb BK560 hb;replace BK570:=kb BK570 hb;replace HB:=aM (below_step (by first|exact bb HB|exact bg HB GE558|exact bg HB GE559|exact bg HB GE560|exact bg HB GE570) hb);(try clear hb)
         refine hK.out _ _ ⟨(blk_cell BK559.out 0).trans rfl,(blk_cell BK559.out 1).trans rfl,(blk_cell BK559.out 2).trans rfl,(blk_cell BK559.out 3).trans rfl,(blk_cell BK559.out 4).trans rfl,(blk_cell BK559.out 5).trans rfl,own_string (P:=Try.prog) Try.underlying22 Try.underlying5 Try.underlying9 (Kd.own_of_R HO_6.out)⟩ (fun hHeld=>?_)
         clear hK K
         refine norm_ (a':=_) (by show Act.put _ _ _=_;simp only [Act.put,sI,sZ,sS,i64_w,i32_w];rfl) ?_
         refine pz 57 12 #[tT,tT,tT,tT,tT,tT,tT,tT,tT,tT,tT,tT,tT,fF,fF,fF] HT_ rfl rfl (by kernel_rfl) (fun _ _ _ h=>h) (by rfl) (by intro w';go_simp;with_reducible rfl) (by simp only [Act.put,sI,sZ,sS,i64_w,i32_w];rfl) ?_
         refine pz 58 13 #[tT,tT,tT,tT,tT,tT,tT,tT,tT,tT,tT,tT,tT,tT,fF,fF] HT_ rfl rfl (by kernel_rfl) (fun _ _ _ h=>h) (by rfl) (by intro w';go_simp;with_reducible rfl) (by simp only [Act.put,sI,sZ,sS,i64_w,i32_w];rfl) ?_
         refine last_ (i:=14) (N:=none) #[tT,tT,tT,tT,tT,tT,tT,tT,tT,tT,tT,tT,tT,tT,tT,fF] rfl rfl (one_of HT_.out (by kernel_rfl)) (by decide) (fun K hK=>?_)
         have hs66:w65.cell? ⟨gb560,0,none⟩ = some (.string x561000_1):=(blk_cell BK560.out 0).trans rfl
         have hfs66:=blk_frozen BK560.out 0
         have hns66_0:=NB558_560.out
         have hns66_1:=NB559_560.out
         have hns66_3:=NB570_560.out
         have hms66_0:=NB560_558.out
         have hms66_1:=NB560_559.out
         have hms66_3:=NB560_570.out
         have hs67:w65.cell? ⟨gb560,1,none⟩ = some (.string x561001_1):=(blk_cell BK560.out 1).trans rfl
         have hfs67:=blk_frozen BK560.out 1
         have hns67_0:=NB558_560.out
         have hns67_1:=NB559_560.out
         have hns67_3:=NB570_560.out
         have hms67_0:=NB560_558.out
         have hms67_1:=NB560_559.out
         have hms67_3:=NB560_570.out
         refine skip_ (w1:=?_) (by rfl) rfl ?_ ?_
         rotate_left
         ·go_simp
          rfl
         refine hK.out _ _ ?_
         clear hK K
         refine pz 5 15 #[tT,tT,tT,tT,tT,tT,tT,tT,tT,tT,tT,tT,tT,tT,tT,tT] HT_ rfl rfl (by kernel_rfl) (fun _ _ _ h=>h) (by rfl) (by intro w';go_simp;with_reducible rfl) (by simp only [Act.put,sI,sZ,sS,i64_w,i32_w];rfl) ?_
         refine done_ (done_of HT_.out (by kernel_rfl)) ?_
         try go_wp2
         refine bodyPost_ret (results_ct rfl _ _ gb560 25 #[.string t579,.string t580] (0,0) _ rfl (by (with_reducible repeat (first|apply yN|apply yD|apply yA));refine blk_put (cs:=#[.string t579,.string x561001_1]) ?_ 1 _ rfl;(with_reducible repeat (first|apply yN|apply yD|apply yA));refine blk_put (cs:=#[.string x561000_1,.string x561001_1]) ?_ 0 _ rfl;(with_reducible repeat (first|apply yN|apply yD|apply yA));exact BK560.out) Try.underlying25 rfl (by kernel_rfl)) rfl ?_
         exact ⟨rfl,by first|exact bb HB|exact bg HB GE558|exact bg HB GE559|exact bg HB GE560|exact bg HB GE570⟩
        ·rw [if_neg c50] at H
         exact absurd H (by simp)
       ·rw [if_neg c49] at H
        by_cases c68:t575 = 2
        ·subst c68
         have H1:(if (strOfNums x6_1).size + x560004_1.size ≤ 9223372036854775807 then ((spec_l06Told.f k1 ((strOfNums x6_1) ++ x560004_1) x560005_1).bind fun bt582=>(some (bt582.1,bt582.2.1,bt582.2.2))) else (none)) = some (r1,r2,r3):=by rw [if_pos rfl] at H;exact H
         clear H
         have H:=H1
         clear H1
         by_cases c69:(strOfNums x6_1).size + x560004_1.size ≤ 9223372036854775807
         ·rw [if_pos c69] at H
          have c69b0:=eq_true c69
          have c69b1:decide ((strOfNums x6_1).size + x560004_1.size ≤ 9223372036854775807) = true:=decide_eq_true c69
          try have c69b2:(9223372036854775807 < (strOfNums x6_1).size + x560004_1.size) = False:=eq_false (Nat.not_lt.2 c69)
          replace H:=Option.bind_eq_some_iff.mp H
          obtain ⟨⟨t582,t583,t584⟩,A700,H⟩:=H
          replace H:(some (t582,t583,t584)) = some (r1,r2,r3):=H;have A70:=aM A700
          clear A700
          simp only [Option.some.injEq,Prod.mk.injEq] at H
          obtain ⟨rfl,rfl,rfl⟩:=H
          have hnb71:=NB559_558.out
          have hnc71:=NB558_559.out
          have hnb72:=NB559_560.out
          have hnc72:=NB560_559.out
          have⟨a0,a1,a2,a3,a4,a5,b0,b1,b2,b3,b4,b5⟩:=q6f BK559
          try go_wp2_with (first|((with_reducible refine gate_callee (f:=55) rfl ?_);refine goesL_ (some 24) rfl rfl Try.func55 (by kernel_rfl) rfl #[.agg #[.string x560000_1,.string x560001_1,.string x560002_1,.string x560003_1,.string x560004_1,.string x560005_1]] rfl (by (try simp only [sM,sC,sN]);first|done|rfl) ?_;(with_reducible refine (spec_l06Same.calls k1 x560000_1 x560001_1 x560002_1 x560003_1 x560004_1 x560005_1 t567 t568 false _ A11.out).mono ?_);rintro e w74 ⟨rfl,hb⟩;refine ⟨_,rfl,?_⟩;replace HO_6:=ko HO_6 hb;replace HO_7:=ko HO_7 hb;replace BK558:=kb BK558 hb;replace BK559:=kb BK559 hb;replace BK560:=kb BK560 hb;replace HB:=aM (below_step (by first|exact bb HB|exact bg HB GE558|exact bg HB GE559|exact bg HB GE560) hb);(try clear hb))|((with_reducible refine gate_dst (N:=9) rfl ?_);refine box_event rfl (N:=9) rfl (cs:=#[.string ⟨#[]⟩,.string ⟨#[]⟩]) (t:=25) (by first|(go_simp;done)|(go_simp;rfl)) ?_;intro gb570 hg w75 hbox hb;have BK570:=aM (hbox);have GW570:=aM ((by rw [hg];exact (below_size (by first|exact bb HB|exact bg HB GE558|exact bg HB GE559|exact bg HB GE560)):w.heap.size ≤ gb570));have GE570:=aM ((by rw [hg];exact (below_size (by first|exact bb HB|exact bg HB GE558|exact bg HB GE559|exact bg HB GE560)):w.heap.size ≤ gb570));have NB558_570:=nl hg BK558;have NB570_558:=nr hg BK558;have NB559_570:=nl hg BK559;have NB570_559:=nr hg BK559;have NB560_570:=nl hg BK560;have NB570_560:=nr hg BK560;replace HO_6:=ko HO_6 hb;replace HO_7:=ko HO_7 hb;replace BK558:=kb BK558 hb;replace BK559:=kb BK559 hb;replace BK560:=kb BK560 hb;replace HB:=aM (below_step (by first|exact bb HB|exact bg HB GE558|exact bg HB GE559|exact bg HB GE560) hb);clear hb hbox hg;have hnb76:=NB570_558.out;have hnc76:=NB558_570.out;have hnb77:=NB570_559.out;have hnc77:=NB559_570.out;have hnb78:=NB570_560.out;have hnc78:=NB560_570.out;have⟨a0,a1,b0,b1⟩:=q2f BK570;have⟨a0,a1,a2,a3,a4,a5,b0,b1,b2,b3,b4,b5⟩:=q6f BK559)|((with_reducible refine gate_callee (f:=57) rfl ?_);refine goesL_ (some 40) rfl rfl Try.func57 (by kernel_rfl) rfl #[.agg #[.string x560000_1,.string x560001_1,.string x560002_1,.string x560003_1,.string x560004_1,.string x560005_1]] rfl (by (try simp only [sM,sC,sN]);first|done|rfl) ?_;(with_reducible refine (spec_l06Letters.calls x560000_1 x560001_1 x560002_1 x560003_1 x560004_1 x560005_1 t574 2 _ A28.out).mono ?_);rintro e w81 ⟨rfl,hb⟩;refine ⟨_,rfl,?_⟩;replace HO_6:=aM (Kd.R_below (by (with_reducible repeat (first|apply rA|apply rN|apply rD));exact (Kd.R_mono (Kd.R_far (p:=⟨gb570,1,none⟩) (Kd.R_far (p:=⟨gb570,0,none⟩) (Kd.R_types HO_6.out BK570.out (by decide)) (fun _ hk=>hk.2) (.string t567)) (fun _ hk=>hk.2) (.string t568)) (fun _ h_=>h_.1))) hb);replace HO_7:=aM (Kd.R_below (by (with_reducible repeat (first|apply rA|apply rN|apply rD));exact (Kd.R_mono (Kd.R_far (p:=⟨gb570,1,none⟩) (Kd.R_far (p:=⟨gb570,0,none⟩) (Kd.R_types HO_7.out BK570.out (by decide)) (fun _ hk=>hk.2) (.string t567)) (fun _ hk=>hk.2) (.string t568)) (fun _ h_=>h_.1))) hb);replace BK558:=kf BK558 NB558_570 hb;replace BK559:=kf BK559 NB559_570 hb;replace BK560:=kf BK560 NB560_570 hb;replace BK570:=aM (blk_below (g:=gb570) (o:=.cells #[.string t567,.string t568] 25 (0,0)) (by (with_reducible repeat (first|apply yN|apply yD|apply yA));refine blk_put (cs:=#[.string t567,.string ⟨#[]⟩]) ?_ 1 _ rfl;(with_reducible repeat (first|apply yN|apply yD|apply yA));refine blk_put (cs:=#[.string ⟨#[]⟩,.string ⟨#[]⟩]) ?_ 0 _ rfl;(with_reducible repeat (first|apply yN|apply yD|apply yA));exact BK570.out) hb);replace HB:=aM (below_step (by first|exact bb HB|exact bg HB GE558|exact bg HB GE559|exact bg HB GE560|exact bg HB GE570) hb);(try clear hb)))
          replace HO_6:=aM (rD HO_6.out);replace HO_7:=aM (rD HO_7.out);replace BK558:=aM (yD BK558.out);replace BK559:=aM (yD BK559.out);replace BK560:=aM (yD BK560.out);replace BK570:=aM (yD BK570.out);replace HB:=aM (zD HB.out)
          have hcv83:=own_string (P:=Try.prog) Try.underlying22 Try.underlying5 Try.underlying9 (Kd.own_of_R HO_6.out)
          refine start_ (n:=16) (S:=fun w'=>w'.cell? ⟨gb559,0,none⟩ = some (.string x560000_1) ∧ w'.cell? ⟨gb559,1,none⟩ = some (.string x560001_1) ∧ w'.cell? ⟨gb559,2,none⟩ = some (.string x560002_1) ∧ w'.cell? ⟨gb559,3,none⟩ = some (.string x560003_1) ∧ w'.cell? ⟨gb559,4,none⟩ = some (.string x560004_1) ∧ w'.cell? ⟨gb559,5,none⟩ = some (.string x560005_1) ∧ (convert 22 9 u6).run Try.prog w' = .ok (.string (strOfNums x6_1)) w') (ds:=[14]) #[fF,fF,fF,fF,fF,fF,fF,fF,fF,fF,fF,fF,fF,fF,fF,fF] (by kernel_rfl) rfl rfl ⟨(blk_cell BK559.out 0).trans rfl,(blk_cell BK559.out 1).trans rfl,(blk_cell BK559.out 2).trans rfl,(blk_cell BK559.out 3).trans rfl,(blk_cell BK559.out 4).trans rfl,(blk_cell BK559.out 5).trans rfl,hcv83⟩ (fun hHeld=>?_);refine with_tabW spec_l06Middle.tab10 spec_l06Middle.bits10 (fun HT_ HW_=>?_)
          generalize w81.drew = w82 at HO_6 HO_7 BK558 BK559 BK560 BK570 HB hHeld ⊢
          refine pz 45 0 #[tT,fF,fF,fF,fF,fF,fF,fF,fF,fF,fF,fF,fF,fF,fF,fF] HT_ rfl rfl (by kernel_rfl) (fun _ _ _ h=>h) (by rfl) (by intro w';go_simp;with_reducible rfl) (by simp only [Act.put,sI,sZ,sS,i64_w,i32_w];rfl) ?_
          refine take_ (i:=1) (N:=some 46) (v:=?_) (a':=?_) #[tT,tT,fF,fF,fF,fF,fF,fF,fF,fF,fF,fF,fF,fF,fF,fF] rfl rfl (take_ofW HT_.out HW_.out (by kernel_rfl)) (fun _ _ _ h=>h) (Or.inl ⟨by rfl,?_⟩) hHeld ?_ ?_
          rotate_left
          ·rintro w' ⟨s0,s1,s2,s3,s4,s5,s6⟩
           first|(go_simp;rw [s6];rfl)|(go_simp;with_reducible rfl)|(simp only [s6];rfl)
          rotate_left
          ·simp only [Act.put,sI,sZ,sS,i64_w,i32_w]
           rfl
          refine pz 47 2 #[tT,tT,tT,fF,fF,fF,fF,fF,fF,fF,fF,fF,fF,fF,fF,fF] HT_ rfl rfl (by kernel_rfl) (fun _ _ _ h=>h) (by rfl) (by intro w';go_simp;with_reducible rfl) (by simp only [Act.put,sI,sZ,sS,i64_w,i32_w];rfl) ?_
          refine pz 48 3 #[tT,tT,tT,tT,fF,fF,fF,fF,fF,fF,fF,fF,fF,fF,fF,fF] HT_ rfl rfl (by kernel_rfl) (fun _ _ _ h=>h) (by rfl) (by intro w';go_simp;with_reducible rfl) (by simp only [Act.put,sI,sZ,sS,i64_w,i32_w];rfl) ?_
          refine pz 49 4 #[tT,tT,tT,tT,tT,fF,fF,fF,fF,fF,fF,fF,fF,fF,fF,fF] HT_ rfl rfl (by kernel_rfl) (fun _ _ _ h=>h) (by rfl) (by intro w';go_simp;with_reducible rfl) (by simp only [Act.put,sI,sZ,sS,i64_w,i32_w];rfl) ?_
          refine pz 52 7 #[tT,tT,tT,tT,tT,fF,fF,tT,fF,fF,fF,fF,fF,fF,fF,fF] HT_ rfl rfl (by kernel_rfl) (fun _ _ _ h=>h) (by rfl) (by intro w';go_simp;with_reducible rfl) (by simp only [Act.put,sI,sZ,sS,i64_w,i32_w];rfl) ?_
          refine pz 53 8 #[tT,tT,tT,tT,tT,fF,fF,tT,tT,fF,fF,fF,fF,fF,fF,fF] HT_ rfl rfl (by kernel_rfl) (fun _ _ _ h=>h) (by rfl) (by intro w';go_simp;with_reducible rfl) (by simp only [Act.put,sI,sZ,sS,i64_w,i32_w];rfl) ?_
          refine pz 54 9 #[tT,tT,tT,tT,tT,fF,fF,tT,tT,tT,fF,fF,fF,fF,fF,fF] HT_ rfl rfl (by kernel_rfl) (fun _ _ _ h=>h) (by rfl) (by intro w';go_simp;with_reducible rfl) (by simp only [Act.put,sI,sZ,sS,i64_w,i32_w];rfl) ?_
          refine tz 50 5 #[tT,tT,tT,tT,tT,tT,fF,tT,tT,tT,fF,fF,fF,fF,fF,fF] HT_ HW_ hHeld rfl rfl (by kernel_rfl) (fun _ _ _ h=>h) (by rfl) (by rintro w' ⟨s0,s1,s2,s3,s4,s5,s6⟩;go_simp;with_reducible rfl) (by simp only [Act.put,sI,sZ,sS,i64_w,i32_w];rfl) ?_
          refine pz 51 6 #[tT,tT,tT,tT,tT,tT,tT,tT,tT,tT,fF,fF,fF,fF,fF,fF] HT_ rfl rfl (by kernel_rfl) (fun _ _ _ h=>h) (by rfl) (by intro w';go_simp;with_reducible rfl) (by simp only [Act.put,sI,sZ,sS,i64_w,i32_w];rfl) ?_
          refine tz 55 10 #[tT,tT,tT,tT,tT,tT,tT,tT,tT,tT,tT,fF,fF,fF,fF,fF] HT_ HW_ hHeld rfl rfl (by kernel_rfl) (fun _ _ _ h=>h) (by rfl) (by rintro w' ⟨s0,s1,s2,s3,s4,s5,s6⟩;go_simp;with_reducible rfl) (by simp only [Act.put,sI,sZ,sS,i64_w,i32_w];rfl) ?_
          refine one_ (i:=11) (N:=some 56) #[tT,tT,tT,tT,tT,tT,tT,tT,tT,tT,tT,tT,fF,fF,fF,fF] rfl rfl (one_of HT_.out (by kernel_rfl)) (by decide) (fun K hK=>?_)
          refine goes_ Try.func56 (by kernel_rfl) rfl #[.string ((strOfNums x6_1) ++ x560004_1),.string x560005_1] (by rfl) rfl rfl (by (try simp only [sM,sC,sN]);first|done|rfl) ?_
          with_reducible refine (spec_l06Told.calls k1 ((strOfNums x6_1) ++ x560004_1) x560005_1 t582 t583 t584 _ A70.out).mono ?_
          rintro e w84 ⟨rfl,hb⟩
          refine ⟨_,rfl,?_⟩
          replace HO_6:=ko HO_6 hb;replace HO_7:=ko HO_7 hb;replace BK558:=kb BK558 hb;replace BK559:=kb BK559 hb;replace BK560:=kb BK560 hb;replace BK570:=kb BK570 hb;replace HB:=aM (below_step (by first|exact bb HB|exact bg HB GE558|exact bg HB GE559|exact bg HB GE560|exact bg HB GE570) hb);(try clear hb)
          refine hK.out _ _ ⟨(blk_cell BK559.out 0).trans rfl,(blk_cell BK559.out 1).trans rfl,(blk_cell BK559.out 2).trans rfl,(blk_cell BK559.out 3).trans rfl,(blk_cell BK559.out 4).trans rfl,(blk_cell BK559.out 5).trans rfl,own_string (P:=Try.prog) Try.underlying22 Try.underlying5 Try.underlying9 (Kd.own_of_R HO_6.out)⟩ (fun hHeld=>?_)
          clear hK K
          refine norm_ (a':=_) (by show Act.put _ _ _=_;simp only [Act.put,sI,sZ,sS,i64_w,i32_w];rfl) ?_
          refine pz 57 12 #[tT,tT,tT,tT,tT,tT,tT,tT,tT,tT,tT,tT,tT,fF,fF,fF] HT_ rfl rfl (by kernel_rfl) (fun _ _ _ h=>h) (by rfl) (by intro w';go_simp;with_reducible rfl) (by simp only [Act.put,sI,sZ,sS,i64_w,i32_w];rfl) ?_
          refine pz 58 13 #[tT,tT,tT,tT,tT,tT,tT,tT,tT,tT,tT,tT,tT,tT,fF,fF] HT_ rfl rfl (by kernel_rfl) (fun _ _ _ h=>h) (by rfl) (by intro w';go_simp;with_reducible rfl) (by simp only [Act.put,sI,sZ,sS,i64_w,i32_w];rfl) ?_
          refine last_ (i:=14) (N:=none) #[tT,tT,tT,tT,tT,tT,tT,tT,tT,tT,tT,tT,tT,tT,tT,fF] rfl rfl (one_of HT_.out (by kernel_rfl)) (by decide) (fun K hK=>?_)
          have hs85:w84.cell? ⟨gb560,0,none⟩ = some (.string x561000_1):=(blk_cell BK560.out 0).trans rfl
          have hfs85:=blk_frozen BK560.out 0
          have hns85_0:=NB558_560.out
          have hns85_1:=NB559_560.out
          have hns85_3:=NB570_560.out
          have hms85_0:=NB560_558.out
          have hms85_1:=NB560_559.out
          have hms85_3:=NB560_570.out
          have hs86:w84.cell? ⟨gb560,1,none⟩ = some (.string x561001_1):=(blk_cell BK560.out 1).trans rfl
          have hfs86:=blk_frozen BK560.out 1
          have hns86_0:=NB558_560.out
          have hns86_1:=NB559_560.out
          have hns86_3:=NB570_560.out
          have hms86_0:=NB560_558.out
          have hms86_1:=NB560_559.out
          have hms86_3:=NB560_570.out
          refine skip_ (w1:=?_) (by rfl) rfl ?_ ?_
          rotate_left
          ·go_simp
           rfl
          refine hK.out _ _ ?_
          clear hK K
          refine pz 5 15 #[tT,tT,tT,tT,tT,tT,tT,tT,tT,tT,tT,tT,tT,tT,tT,tT] HT_ rfl rfl (by kernel_rfl) (fun _ _ _ h=>h) (by rfl) (by intro w';go_simp;with_reducible rfl) (by simp only [Act.put,sI,sZ,sS,i64_w,i32_w];rfl) ?_
          refine done_ (done_of HT_.out (by kernel_rfl)) ?_
          try go_wp2
          refine bodyPost_ret (results_ct rfl _ _ gb560 25 #[.string t582,.string t583] (0,0) _ rfl (by (with_reducible repeat (first|apply yN|apply yD|apply yA));refine blk_put (cs:=#[.string t582,.string x561001_1]) ?_ 1 _ rfl;(with_reducible repeat (first|apply yN|apply yD|apply yA));refine blk_put (cs:=#[.string x561000_1,.string x561001_1]) ?_ 0 _ rfl;(with_reducible repeat (first|apply yN|apply yD|apply yA));exact BK560.out) Try.underlying25 rfl (by kernel_rfl)) rfl ?_
          exact ⟨rfl,by first|exact bb HB|exact bg HB GE558|exact bg HB GE559|exact bg HB GE560|exact bg HB GE570⟩
         ·rw [if_neg c69] at H
          exact absurd H (by simp)
        ·rw [if_neg c68] at H
         exact absurd H (by simp)
     ·rw [if_neg c29] at H
      have c29b0:decide (0 ≤ t575) = false:=decide_eq_false c29
      clear c29
      have H':=aM H
      clear H
      have hnb87:=NB559_558.out
      have hnc87:=NB558_559.out
      have hnb88:=NB559_560.out
      have hnc88:=NB560_559.out
      have⟨a0,a1,a2,a3,a4,a5,b0,b1,b2,b3,b4,b5⟩:=q6f BK559
      go_wp2_with (first|((with_reducible refine gate_callee (f:=55) rfl ?_);refine goesL_ (some 24) rfl rfl Try.func55 (by kernel_rfl) rfl #[.agg #[.string x560000_1,.string x560001_1,.string x560002_1,.string x560003_1,.string x560004_1,.string x560005_1]] rfl (by (try simp only [sM,sC,sN]);first|done|rfl) ?_;(with_reducible refine (spec_l06Same.calls k1 x560000_1 x560001_1 x560002_1 x560003_1 x560004_1 x560005_1 t567 t568 false _ A11.out).mono ?_);rintro e w90 ⟨rfl,hb⟩;refine ⟨_,rfl,?_⟩;replace HO_6:=ko HO_6 hb;replace HO_7:=ko HO_7 hb;replace BK558:=kb BK558 hb;replace BK559:=kb BK559 hb;replace BK560:=kb BK560 hb;replace HB:=aM (below_step (by first|exact bb HB|exact bg HB GE558|exact bg HB GE559|exact bg HB GE560) hb);(try clear hb))|((with_reducible refine gate_dst (N:=9) rfl ?_);refine box_event rfl (N:=9) rfl (cs:=#[.string ⟨#[]⟩,.string ⟨#[]⟩]) (t:=25) (by first|(go_simp;done)|(go_simp;rfl)) ?_;intro gb570 hg w91 hbox hb;have BK570:=aM (hbox);have GW570:=aM ((by rw [hg];exact (below_size (by first|exact bb HB|exact bg HB GE558|exact bg HB GE559|exact bg HB GE560)):w.heap.size ≤ gb570));have GE570:=aM ((by rw [hg];exact (below_size (by first|exact bb HB|exact bg HB GE558|exact bg HB GE559|exact bg HB GE560)):w.heap.size ≤ gb570));have NB558_570:=nl hg BK558;have NB570_558:=nr hg BK558;have NB559_570:=nl hg BK559;have NB570_559:=nr hg BK559;have NB560_570:=nl hg BK560;have NB570_560:=nr hg BK560;replace HO_6:=ko HO_6 hb;replace HO_7:=ko HO_7 hb;replace BK558:=kb BK558 hb;replace BK559:=kb BK559 hb;replace BK560:=kb BK560 hb;replace HB:=aM (below_step (by first|exact bb HB|exact bg HB GE558|exact bg HB GE559|exact bg HB GE560) hb);clear hb hbox hg;have hnb92:=NB570_558.out;have hnc92:=NB558_570.out;have hnb93:=NB570_559.out;have hnc93:=NB559_570.out;have hnb94:=NB570_560.out;have hnc94:=NB560_570.out;have⟨a0,a1,b0,b1⟩:=q2f BK570;have⟨a0,a1,a2,a3,a4,a5,b0,b1,b2,b3,b4,b5⟩:=q6f BK559)|((with_reducible refine gate_callee (f:=57) rfl ?_);refine goesL_ (some 40) rfl rfl Try.func57 (by kernel_rfl) rfl #[.agg #[.string x560000_1,.string x560001_1,.string x560002_1,.string x560003_1,.string x560004_1,.string x560005_1]] rfl (by (try simp only [sM,sC,sN]);first|done|rfl) ?_;(with_reducible refine (spec_l06Letters.calls x560000_1 x560001_1 x560002_1 x560003_1 x560004_1 x560005_1 t574 t575 _ A28.out).mono ?_);rintro e w97 ⟨rfl,hb⟩;refine ⟨_,rfl,?_⟩;replace HO_6:=aM (Kd.R_below (by (with_reducible repeat (first|apply rA|apply rN|apply rD));exact (Kd.R_mono (Kd.R_far (p:=⟨gb570,1,none⟩) (Kd.R_far (p:=⟨gb570,0,none⟩) (Kd.R_types HO_6.out BK570.out (by decide)) (fun _ hk=>hk.2) (.string t567)) (fun _ hk=>hk.2) (.string t568)) (fun _ h_=>h_.1))) hb);replace HO_7:=aM (Kd.R_below (by (with_reducible repeat (first|apply rA|apply rN|apply rD));exact (Kd.R_mono (Kd.R_far (p:=⟨gb570,1,none⟩) (Kd.R_far (p:=⟨gb570,0,none⟩) (Kd.R_types HO_7.out BK570.out (by decide)) (fun _ hk=>hk.2) (.string t567)) (fun _ hk=>hk.2) (.string t568)) (fun _ h_=>h_.1))) hb);replace BK558:=kf BK558 NB558_570 hb;replace BK559:=kf BK559 NB559_570 hb;replace BK560:=kf BK560 NB560_570 hb;replace BK570:=aM (blk_below (g:=gb570) (o:=.cells #[.string t567,.string t568] 25 (0,0)) (by (with_reducible repeat (first|apply yN|apply yD|apply yA));refine blk_put (cs:=#[.string t567,.string ⟨#[]⟩]) ?_ 1 _ rfl;(with_reducible repeat (first|apply yN|apply yD|apply yA));refine blk_put (cs:=#[.string ⟨#[]⟩,.string ⟨#[]⟩]) ?_ 0 _ rfl;(with_reducible repeat (first|apply yN|apply yD|apply yA));exact BK570.out) hb);replace HB:=aM (below_step (by first|exact bb HB|exact bg HB GE558|exact bg HB GE559|exact bg HB GE560|exact bg HB GE570) hb);(try clear hb)))
      go_loopg [13] k1 (fun kq v13 w'=>∃ (x13_2:Int) (x561000_2:ByteArray) (x561001_2:ByteArray),v13 = .int .i64 x13_2 ∧ Aside0 (spec_l06Middle.l1 kq x6_1 x7_1 x8_1 t574 x13_2 a0_0 a0_1 x560000_1 x560001_1 x560002_1 x560003_1 x560004_1 x560005_1 = some (r1,r2,r3)) ∧ Aside0 (kq ≤ k1) ∧ Aside0 (Kd.R (Kd.int .u8) 5 w' w.heap.size (fun _=>True) u6 x6_1) ∧ Aside0 (Kd.R k50 50 w' w.heap.size (fun k_=>k_ ≠ gb559) u7 x7_1) ∧ Aside0 (w'.heap[gb558]? = some (.cells #[.string a0_0,.string a0_1] 25 (0,0))) ∧ Aside0 (w'.heap[gb559]? = some (.cells #[.string x560000_1,.string x560001_1,.string x560002_1,.string x560003_1,.string x560004_1,.string x560005_1] 50 (0,0))) ∧ Aside0 (w'.heap[gb560]? = some (.cells #[.string x561000_2,.string x561001_2] 25 (0,0))) ∧ Aside0 (w'.heap[gb570]? = some (.cells #[.string t567,.string t568] 25 (0,0))) ∧ Aside0 (Below w.heap.size w w'))
      case atStart=>exact ⟨(0),(x561000_1),(x561001_1),(by first|rfl|(simp;done)|(simp [*];done)),H',⟨Nat.le_refl _⟩,⟨rk HO_6⟩,⟨rk HO_7⟩,⟨bk BK558⟩,⟨bk BK559⟩,⟨bk BK560⟩,⟨bk BK570⟩,⟨by first|exact bb HB|exact bg HB GE558|exact bg HB GE559|exact bg HB GE560|exact bg HB GE570⟩⟩
      case round =>
       clear H'
       try clear c2
       try clear p2
       try clear c3
       try clear c4
       try clear c5
       try clear c6
       try clear hcv6
       try clear c7
       try clear c8
       try clear hcv8
       try clear c9
       try clear c29
       try clear c29b0
       try clear c30
       try clear c31
       try clear c49
       try clear c50
       try clear c50b0
       try clear c50b1
       try clear c50b2
       try clear c52
       try clear c53
       try clear c55
       try clear c56
       try clear c57
       try clear c58
       try clear c59
       try clear hcv64
       try clear c68
       try clear c69
       try clear c69b0
       try clear c69b1
       try clear c69b2
       try clear c71
       try clear c72
       try clear c76
       try clear c77
       try clear c78
       try clear hcv83
       try clear c87
       try clear c88
       try clear c92
       try clear c93
       try clear c94
       try clear hcz54_0
       try clear hcz54_1
       try clear hcz54_2
       try clear hcz54_3
       try clear hcz54_4
       try clear hcz54_5
       try clear hcz60_0
       try clear hcz60_1
       try clear hcz61_0
       try clear hcz61_1
       try clear hcz61_2
       try clear hcz61_3
       try clear hcz61_4
       try clear hcz61_5
       try clear hcz73_0
       try clear hcz73_1
       try clear hcz73_2
       try clear hcz73_3
       try clear hcz73_4
       try clear hcz73_5
       try clear hcz79_0
       try clear hcz79_1
       try clear hcz80_0
       try clear hcz80_1
       try clear hcz80_2
       try clear hcz80_3
       try clear hcz80_4
       try clear hcz80_5
       try clear hcz89_0
       try clear hcz89_1
       try clear hcz89_2
       try clear hcz89_3
       try clear hcz89_4
       try clear hcz89_5
       try clear hcz95_0
       try clear hcz95_1
       try clear hcz96_0
       try clear hcz96_1
       try clear hcz96_2
       try clear hcz96_3
       try clear hcz96_4
       try clear hcz96_5
       try clear hfz54_0
       try clear hfz54_1
       try clear hfz54_2
       try clear hfz54_3
       try clear hfz54_4
       try clear hfz54_5
       try clear hfz60_0
       try clear hfz60_1
       try clear hfz61_0
       try clear hfz61_1
       try clear hfz61_2
       try clear hfz61_3
       try clear hfz61_4
       try clear hfz61_5
       try clear hfz73_0
       try clear hfz73_1
       try clear hfz73_2
       try clear hfz73_3
       try clear hfz73_4
       try clear hfz73_5
       try clear hfz79_0
       try clear hfz79_1
       try clear hfz80_0
       try clear hfz80_1
       try clear hfz80_2
       try clear hfz80_3
       try clear hfz80_4
       try clear hfz80_5
       try clear hfz89_0
       try clear hfz89_1
       try clear hfz89_2
       try clear hfz89_3
       try clear hfz89_4
       try clear hfz89_5
       try clear hfz95_0
       try clear hfz95_1
       try clear hfz96_0
       try clear hfz96_1
       try clear hfz96_2
       try clear hfz96_3
       try clear hfz96_4
       try clear hfz96_5
       obtain ⟨x13_2,x561000_2,x561001_2,rfl,HA,HK2,HO_6,HO_7,BK558,BK559,BK560,BK570,HB⟩:=hrel
       cases gk with
       | zero=>exact absurd HA.out (by simp [spec_l06Middle.l1])
       | succ k2 =>
        have H:=HA.out
        clear HA
        simp only [spec_l06Middle.l1] at H
        by_cases c98:x13_2 < (x7_1.length:Int)
        ·rw [if_pos c98] at H
         have c98b0:decide (x13_2 < (x7_1.length:Int)) = true:=decide_eq_true c98
         clear c98
         by_cases c99:0 ≤ x13_2
         ·rw [if_pos c99] at H
          have c99b0:decide (0 ≤ x13_2) = true:=decide_eq_true c99
          clear c99
          by_cases c100:(((((rd_T50 x7_1 x13_2).f0.f0).toList) == x560000_1.toList && ((((rd_T50 x7_1 x13_2).f0.f1).toList) == x560001_1.toList)) && (((((rd_T50 x7_1 x13_2).f1.f0).toList) == x560002_1.toList && ((((rd_T50 x7_1 x13_2).f1.f1).toList) == x560003_1.toList)) && (((((rd_T50 x7_1 x13_2).f2.f0).toList) == x560004_1.toList && ((((rd_T50 x7_1 x13_2).f2.f1).toList) == x560005_1.toList))))) = true
          ·rw [if_pos c100] at H
           have c100b0:(((((rd_T50 x7_1 x13_2).f0.f0).toList) == x560000_1.toList && ((((rd_T50 x7_1 x13_2).f0.f1).toList) == x560001_1.toList)) && (((((rd_T50 x7_1 x13_2).f1.f0).toList) == x560002_1.toList && ((((rd_T50 x7_1 x13_2).f1.f1).toList) == x560003_1.toList)) && (((((rd_T50 x7_1 x13_2).f2.f0).toList) == x560004_1.toList && ((((rd_T50 x7_1 x13_2).f2.f1).toList) == x560005_1.toList))))) = true:=c100
           clear c100
           have c101b0:=eq_true (of_decide_eq_true (by assumption):0 ≤ x13_2)
           by_cases c102:x13_2 ≤ (x6_1.length:Int)
           ·rw [if_pos c102] at H
            have c102b0:=eq_true c102
            have c102b1:decide (x13_2 ≤ (x6_1.length:Int)) = true:=decide_eq_true c102
            clear c102
            obtain ⟨y586,hy586⟩:∃ y_:List Int,y_ = (x6_1.take (x13_2:Int).toNat):=⟨_,rfl⟩
            replace H:((spec_l06Told.f k2 (strOfNums y586) (strOfNums (x6_1.drop (x13_2:Int).toNat))).bind fun bt594=>(some (bt594.1,bt594.2.1,bt594.2.2))) = some (r1,r2,r3):=by first|(rw [hy586];with_reducible exact H)|(have H2_:=(Option.bind_some _ _).symm.trans H;rw [hy586];with_reducible exact H2_)|(have H2_:=(Option.bind_some _ _).symm.trans H;with_reducible exact H2_)|with_reducible exact H|(rw [hy586];exact H)|exact H
            have Ny586:=aM hy586
            clear hy586
            have c103b0:=eq_true (of_decide_eq_true (by assumption):0 ≤ x13_2)
            have c104b0:=eq_true (of_decide_eq_true (by assumption):x13_2 ≤ (x6_1.length:Int))
            obtain ⟨y590,hy590⟩:∃ y_:List Int,y_ = (x6_1.drop (x13_2:Int).toNat):=⟨_,rfl⟩
            replace H:((spec_l06Told.f k2 (strOfNums y586) (strOfNums y590)).bind fun bt594=>(some (bt594.1,bt594.2.1,bt594.2.2))) = some (r1,r2,r3):=by first|(rw [hy590];with_reducible exact H)|(have H2_:=(Option.bind_some _ _).symm.trans H;rw [hy590];with_reducible exact H2_)|(have H2_:=(Option.bind_some _ _).symm.trans H;with_reducible exact H2_)|with_reducible exact H|(rw [hy590];exact H)|exact H
            have Ny590:=aM hy590
            clear hy590
            replace H:=Option.bind_eq_some_iff.mp H
            obtain ⟨⟨t594,t595,t596⟩,A1050,H⟩:=H
            replace H:(some (t594,t595,t596)) = some (r1,r2,r3):=H;have A105:=aM A1050
            clear A1050
            simp only [Option.some.injEq,Prod.mk.injEq] at H
            obtain ⟨rfl,rfl,rfl⟩:=H
            obtain ⟨Ao106,co106,eo106⟩:=Kd.R_slice HO_7.out
            subst eo106
            try go_wp2
            replace HO_6:=aM (rD HO_6.out);replace HO_7:=aM (rD HO_7.out);replace BK558:=aM (yD BK558.out);replace BK559:=aM (yD BK559.out);replace BK560:=aM (yD BK560.out);replace BK570:=aM (yD BK570.out);replace HB:=aM (zD HB.out)
            have p585:0 ≤ (x13_2:Int):=of_decide_eq_true (by assumption)
            have q585:x13_2 < (x7_1.length:Int):=of_decide_eq_true (by assumption)
            obtain ⟨ad585,e585,hx585_0,hx585_1,hx585_2,hx585_3,hx585_4,hx585_5⟩:=at_T50 (Kd.R_reads' HO_7.out).2.2 x13_2 p585 q585
            cases e585
            replace p585:=eq_true p585;replace q585:=eq_true q585
            refine start_ (n:=6) (S:=fun w'=>w'.cell? ⟨gb559,0,none⟩ = some (.string x560000_1) ∧ w'.cell? ⟨gb559,1,none⟩ = some (.string x560001_1) ∧ w'.cell? ⟨gb559,2,none⟩ = some (.string x560002_1) ∧ w'.cell? ⟨gb559,3,none⟩ = some (.string x560003_1) ∧ w'.cell? ⟨gb559,4,none⟩ = some (.string x560004_1) ∧ w'.cell? ⟨gb559,5,none⟩ = some (.string x560005_1) ∧ w'.cell? (ad585.add ((x13_2).toNat * 6)) = some (.string ((rd_T50 x7_1 x13_2).f0.f0)) ∧ w'.cell? ⟨(ad585.add ((x13_2).toNat * 6)).block,(ad585.add ((x13_2).toNat * 6)).off + 1,none⟩ = some (.string ((rd_T50 x7_1 x13_2).f0.f1)) ∧ w'.cell? ⟨(ad585.add ((x13_2).toNat * 6)).block,(ad585.add ((x13_2).toNat * 6)).off + 2,none⟩ = some (.string ((rd_T50 x7_1 x13_2).f1.f0)) ∧ w'.cell? ⟨(ad585.add ((x13_2).toNat * 6)).block,(ad585.add ((x13_2).toNat * 6)).off + 3,none⟩ = some (.string ((rd_T50 x7_1 x13_2).f1.f1)) ∧ w'.cell? ⟨(ad585.add ((x13_2).toNat * 6)).block,(ad585.add ((x13_2).toNat * 6)).off + 4,none⟩ = some (.string ((rd_T50 x7_1 x13_2).f2.f0)) ∧ w'.cell? ⟨(ad585.add ((x13_2).toNat * 6)).block,(ad585.add ((x13_2).toNat * 6)).off + 5,none⟩ = some (.string ((rd_T50 x7_1 x13_2).f2.f1))) (ds:=[]) #[fF,fF,fF,fF,fF,fF] (by kernel_rfl) rfl rfl ⟨(blk_cell BK559.out 0).trans rfl,(blk_cell BK559.out 1).trans rfl,(blk_cell BK559.out 2).trans rfl,(blk_cell BK559.out 3).trans rfl,(blk_cell BK559.out 4).trans rfl,(blk_cell BK559.out 5).trans rfl,hx585_0,hx585_1,hx585_2,hx585_3,hx585_4,hx585_5⟩ (fun hHeld=>?_)
            generalize wr.drew = w107 at HO_6 HO_7 BK558 BK559 BK560 BK570 HB hx585_0 hx585_1 hx585_2 hx585_3 hx585_4 hx585_5 hHeld ⊢
            refine pure_ (i:=0) (N:=some 65) (v:=?_) (a':=?_) #[tT,fF,fF,fF,fF,fF] rfl rfl (by kernel_rfl) (fun _ _ _ h=>h) (Or.inl ⟨by rfl,?_⟩) ?_ ?_
            rotate_left
            ·intro w'
             go_simp
             with_reducible rfl
            rotate_left
            ·simp only [Act.put,sI,sZ,sS,i64_w,i32_w]
             rfl
            refine pure_ (i:=1) (N:=some 66) (v:=?_) (a':=?_) #[tT,tT,fF,fF,fF,fF] rfl rfl (by kernel_rfl) (fun _ _ _ h=>h) (Or.inl ⟨by rfl,?_⟩) ?_ ?_
            rotate_left
            ·intro w'
             go_simp
             with_reducible rfl
            rotate_left
            ·simp only [Act.put,sI,sZ,sS,i64_w,i32_w]
             rfl
            refine pure_ (i:=2) (N:=some 67) (v:=?_) (a':=?_) #[tT,tT,tT,fF,fF,fF] rfl rfl (by kernel_rfl) (fun _ _ _ h=>h) (Or.inl ⟨by rfl,?_⟩) ?_ ?_
            rotate_left
            ·intro w'
             go_simp
             with_reducible rfl
            rotate_left
            ·simp only [Act.put,sI,sZ,sS,i64_w,i32_w]
             rfl
            refine take_ (i:=3) (N:=some 68) (v:=?_) (a':=?_) #[tT,tT,tT,tT,fF,fF] rfl rfl (by kernel_rfl) (fun _ _ _ h=>h) (Or.inl ⟨by rfl,?_⟩) hHeld ?_ ?_
            rotate_left
            ·rintro w' ⟨s0,s1,s2,s3,s4,s5,s6,s7,s8,s9,s10,s11⟩
             go_simp
             with_reducible rfl
            rotate_left
            ·simp only [Act.put,sI,sZ,sS,i64_w,i32_w]
             rfl
            refine take_ (i:=4) (N:=some 69) (v:=?_) (a':=?_) #[tT,tT,tT,tT,tT,fF] rfl rfl (by kernel_rfl) (fun _ _ _ h=>h) (Or.inl ⟨by rfl,?_⟩) hHeld ?_ ?_
            rotate_left
            ·rintro w' ⟨s0,s1,s2,s3,s4,s5,s6,s7,s8,s9,s10,s11⟩
             go_simp
             with_reducible rfl
            rotate_left
            ·simp only [Act.put,sI,sZ,sS,i64_w,i32_w]
             rfl
            refine pure_ (i:=5) (N:=some 70) (v:=?_) (a':=?_) #[tT,tT,tT,tT,tT,tT] rfl rfl (by kernel_rfl) (fun _ _ _ h=>h) (Or.inl ⟨by rfl,?_⟩) ?_ ?_
            rotate_left
            ·intro w'
             go_simp
             with_reducible rfl
            rotate_left
            ·simp only [Act.put,sI,sZ,sS,i64_w,i32_w]
             rfl
            refine done_ (by kernel_rfl) ?_
            try go_wp2
            replace HO_6:=aM (rD HO_6.out);replace HO_7:=aM (rD HO_7.out);replace BK558:=aM (yD BK558.out);replace BK559:=aM (yD BK559.out);replace BK560:=aM (yD BK560.out);replace BK570:=aM (yD BK570.out);replace HB:=aM (zD HB.out)
            obtain ⟨Ao110,co110,eo110⟩:=Kd.R_slice HO_6.out
            (first|subst eo110|(injection eo110 with f1_ f2_ f3_;have f4_:=f1_.symm;have f5_:=f3_.symm;clear f1_ f2_ f3_;subst f4_;subst f5_))
            have q109:(x13_2:Int) ≤ ((x6_1.length:Int):Int):=of_decide_eq_true (by assumption)
            obtain ⟨i0109,hi0109,_,hsz109,_⟩:=info_parts info5
            have hroom109:x6_1.length ≤ co110:=(Kd.R_reads' HO_6.out).2.1
            have hC109:Kd.C (Kd.int .u8) _ Ao110 x6_1.length x6_1:=(Kd.R_reads' HO_6.out).2.2
            have hcut109:=cut_to (P:=Try.prog) 22 5 .i64 Try.underlying22 hi0109 Ao110 x6_1.length co110 x13_2 (of_decide_eq_true (by assumption)) q109 hroom109
            have hr109:=Kd.C_take (m:=(x13_2:Int).toNat) hC109 (by omega)
            have hy109:y586.length = (x13_2:Int).toNat:=(by rw [Ny586.out,List.length_take];omega)
            rw [← Ny586.out] at hr109
            rw [← hy109] at hcut109
            have HR589:=aM hr109;have HC589:=aM (show y586.length ≤ co110 from by omega)
            clear hr109 hC109 hroom109 hi0109 hsz109
            have KY109:=aM hy109
            clear hy109
            have KL109:=aM (show (x13_2:Int).toNat ≤ x6_1.length from by omega);replace q109:=eq_true q109
            have q111:(x13_2:Int) ≤ ((x6_1.length:Int):Int):=of_decide_eq_true (by assumption)
            obtain ⟨i0111,hi0111,_,hsz111,_⟩:=info_parts info5
            have hroom111:x6_1.length ≤ co110:=(Kd.R_reads' HO_6.out).2.1
            have hC111:Kd.C (Kd.int .u8) _ Ao110 x6_1.length x6_1:=(Kd.R_reads' HO_6.out).2.2
            have q0111:(0:Int) ≤ (x13_2:Int):=of_decide_eq_true (by assumption)
            have hcut111:=cut_from (P:=Try.prog) 22 5 .i64 Try.underlying22 hi0111 1 hsz111 Ao110 x6_1.length co110 x13_2 q0111 q111
            have hr111:=Kd.C_drop (m:=(x13_2:Int).toNat) (c:=co110) hC111 (by omega) hroom111
            obtain ⟨A111,hA111⟩:∃ A1,A1 = (if co110 = (x13_2:Int).toNat then Ao110 else (Ao110:Option Addr).map (·.add ((x13_2:Int).toNat * 1))):=⟨_,rfl⟩
            obtain ⟨c111,hc111⟩:∃ c1,c1 = co110 - (x13_2:Int).toNat:=⟨_,rfl⟩
            have hy111:y590.length = x6_1.length - (x13_2:Int).toNat:=(by rw [Ny590.out,List.length_drop] <;> omega)
            rw [show (x6_1).drop (x13_2:Int).toNat = y590 from Ny590.out.symm] at hr111
            replace hr111:Kd.C (Kd.int .u8) _ A111 y590.length y590:=(by rw [hA111];exact hr111)
            rw [← hy111,← hA111,← hc111] at hcut111
            have HR593:=aM hr111;have HC593:=aM (show y590.length ≤ c111 from by rw [hy111,hc111];exact Nat.sub_le_sub_right hroom111 _)
            clear hr111 hC111 hroom111 hi0111 hsz111 hc111
            have KY111:=aM hy111;have KA111:=aM hA111
            clear hy111 hA111
            have KL111:=aM (show (x13_2:Int).toNat ≤ x6_1.length from by omega);replace q111:=eq_true q111
            have hcv112:=Kd.C_string (P:=Try.prog) (A:=Ao110) (c:=co110) Try.underlying22 Try.underlying5 Try.underlying9 (by repeat (first|(with_reducible exact HR589.out)|(with_reducible refine cA ?_ _)|(with_reducible refine cN ?_ _)|(with_reducible refine cD ?_)|exact HR589.out))
            have hcv113:=Kd.C_string (P:=Try.prog) (A:=A111) (c:=c111) Try.underlying22 Try.underlying5 Try.underlying9 (by repeat (first|(with_reducible exact HR593.out)|(with_reducible refine cA ?_ _)|(with_reducible refine cN ?_ _)|(with_reducible refine cD ?_)|exact HR593.out))
            refine start_ (n:=13) (S:=fun w'=>Kd.C (Kd.int .u8) w' Ao110 y586.length y586 ∧ Kd.C (Kd.int .u8) w' A111 y590.length y590) (ds:=[11]) #[fF,fF,fF,fF,fF,fF,fF,fF,fF,fF,fF,fF,fF] (by kernel_rfl) rfl rfl ⟨HR589.out,HR593.out⟩ (fun hHeld=>?_);refine with_tabW spec_l06Middle.tab15 spec_l06Middle.bits15 (fun HT_ HW_=>?_)
            generalize w107.drew = w108 at HO_6 HO_7 BK558 BK559 BK560 BK570 HB HR589 HR593 hHeld ⊢
            refine pz 71 0 #[tT,fF,fF,fF,fF,fF,fF,fF,fF,fF,fF,fF,fF] HT_ rfl rfl (by kernel_rfl) (fun _ _ _ h=>h) (by rfl) (by intro w';go_simp;with_reducible rfl) (by simp only [Act.put,sI,sZ,sS,i64_w,i32_w];rfl) ?_
            refine pz 72 1 #[tT,tT,fF,fF,fF,fF,fF,fF,fF,fF,fF,fF,fF] HT_ rfl rfl (by kernel_rfl) (fun _ _ _ h=>h) (by rfl) (by intro w';go_simp;with_reducible rfl) (by simp only [Act.put,sI,sZ,sS,i64_w,i32_w];rfl) ?_
            refine pz 73 2 #[tT,tT,tT,fF,fF,fF,fF,fF,fF,fF,fF,fF,fF] HT_ rfl rfl (by kernel_rfl) (fun _ _ _ h=>h) (by rfl) (by intro w';go_simp;with_reducible rfl) (by simp only [Act.put,sI,sZ,sS,i64_w,i32_w];rfl) ?_
            refine take_ (i:=3) (N:=some 74) (v:=?_) (a':=?_) #[tT,tT,tT,tT,fF,fF,fF,fF,fF,fF,fF,fF,fF] rfl rfl (take_ofW HT_.out HW_.out (by kernel_rfl)) (fun _ _ _ h=>h) (Or.inl ⟨by rfl,?_⟩) hHeld ?_ ?_
            rotate_left
            ·rintro w' ⟨s0,s1⟩
             have hcv_:=Kd.C_string (P:=Try.prog) (A:=Ao110) (c:=co110) Try.underlying22 Try.underlying5 Try.underlying9 s0
             first|(go_simp;rw [hcv_];rfl)|(go_simp;with_reducible rfl)|(simp only [hcv_];rfl)
            rotate_left
            ·simp only [Act.put,sI,sZ,sS,i64_w,i32_w]
             rfl
            refine pz 75 4 #[tT,tT,tT,tT,tT,fF,fF,fF,fF,fF,fF,fF,fF] HT_ rfl rfl (by kernel_rfl) (fun _ _ _ h=>h) (by rfl) (by intro w';go_simp;with_reducible rfl) (by simp only [Act.put,sI,sZ,sS,i64_w,i32_w];rfl) ?_
            refine pz 76 5 #[tT,tT,tT,tT,tT,tT,fF,fF,fF,fF,fF,fF,fF] HT_ rfl rfl (by kernel_rfl) (fun _ _ _ h=>h) (by rfl) (by intro w';go_simp;with_reducible rfl) (by simp only [Act.put,sI,sZ,sS,i64_w,i32_w];rfl) ?_
            refine pz 77 6 #[tT,tT,tT,tT,tT,tT,tT,fF,fF,fF,fF,fF,fF] HT_ rfl rfl (by kernel_rfl) (fun _ _ _ h=>h) (by rfl) (by intro w';go_simp;with_reducible rfl) (by simp only [Act.put,sI,sZ,sS,i64_w,i32_w];rfl) ?_
            refine take_ (i:=7) (N:=some 78) (v:=?_) (a':=?_) #[tT,tT,tT,tT,tT,tT,tT,tT,fF,fF,fF,fF,fF] rfl rfl (take_ofW HT_.out HW_.out (by kernel_rfl)) (fun _ _ _ h=>h) (Or.inl ⟨by rfl,?_⟩) hHeld ?_ ?_
            rotate_left
            ·rintro w' ⟨s0,s1⟩
             have hcv_:=Kd.C_string (P:=Try.prog) (A:=A111) (c:=c111) Try.underlying22 Try.underlying5 Try.underlying9 s1
             first|(go_simp;rw [hcv_];rfl)|(go_simp;with_reducible rfl)|(simp only [hcv_];rfl)
            rotate_left
            ·simp only [Act.put,sI,sZ,sS,i64_w,i32_w]
             rfl
            refine one_ (i:=8) (N:=some 79) #[tT,tT,tT,tT,tT,tT,tT,tT,tT,fF,fF,fF,fF] rfl rfl (one_of HT_.out (by kernel_rfl)) (by decide) (fun K hK=>?_)
            refine goes_ Try.func56 (by kernel_rfl) rfl #[.string (strOfNums y586),.string (strOfNums y590)] (by rfl) rfl rfl (by (try simp only [sM,sC,sN]);first|done|rfl) ?_
            with_reducible refine (spec_l06Told.calls k2 (strOfNums y586) (strOfNums y590) t594 t595 t596 _ A105.out).mono ?_
            rintro e w115 ⟨rfl,hb⟩
            refine ⟨_,rfl,?_⟩
            replace HO_6:=ko HO_6 hb;replace HO_7:=ko HO_7 hb;replace BK558:=kb BK558 hb;replace BK559:=kb BK559 hb;replace BK560:=kb BK560 hb;replace BK570:=kb BK570 hb;replace HB:=aM (below_step (by first|exact bb HB|exact bg HB GE558|exact bg HB GE559|exact bg HB GE560|exact bg HB GE570) hb)
            have hS_:_ ∧ _:=⟨Kd.C_below HR589.out hb,Kd.C_below HR593.out hb⟩
            (try clear hb)
            refine hK.out _ _ hS_ (fun hHeld=>?_)
            clear hK K
            refine norm_ (a':=_) (by show Act.put _ _ _=_;simp only [Act.put,sI,sZ,sS,i64_w,i32_w];rfl) ?_
            refine pz 80 9 #[tT,tT,tT,tT,tT,tT,tT,tT,tT,tT,fF,fF,fF] HT_ rfl rfl (by kernel_rfl) (fun _ _ _ h=>h) (by rfl) (by intro w';go_simp;with_reducible rfl) (by simp only [Act.put,sI,sZ,sS,i64_w,i32_w];rfl) ?_
            refine pz 81 10 #[tT,tT,tT,tT,tT,tT,tT,tT,tT,tT,tT,fF,fF] HT_ rfl rfl (by kernel_rfl) (fun _ _ _ h=>h) (by rfl) (by intro w';go_simp;with_reducible rfl) (by simp only [Act.put,sI,sZ,sS,i64_w,i32_w];rfl) ?_
            refine last_ (i:=11) (N:=none) #[tT,tT,tT,tT,tT,tT,tT,tT,tT,tT,tT,tT,fF] rfl rfl (one_of HT_.out (by kernel_rfl)) (by decide) (fun K hK=>?_)
            have hs116:w115.cell? ⟨gb560,0,none⟩ = some (.string x561000_2):=(blk_cell BK560.out 0).trans rfl
            have hfs116:=blk_frozen BK560.out 0
            have hns116_0:=NB558_560.out
            have hns116_1:=NB559_560.out
            have hns116_3:=NB570_560.out
            have hms116_0:=NB560_558.out
            have hms116_1:=NB560_559.out
            have hms116_3:=NB560_570.out
            have hs117:w115.cell? ⟨gb560,1,none⟩ = some (.string x561001_2):=(blk_cell BK560.out 1).trans rfl
            have hfs117:=blk_frozen BK560.out 1
            have hns117_0:=NB558_560.out
            have hns117_1:=NB559_560.out
            have hns117_3:=NB570_560.out
            have hms117_0:=NB560_558.out
            have hms117_1:=NB560_559.out
            have hms117_3:=NB560_570.out
            refine skip_ (w1:=?_) (by rfl) rfl ?_ ?_
            rotate_left
            ·go_simp
             rfl
            refine hK.out _ _ ?_
            clear hK K
            refine pz 5 12 #[tT,tT,tT,tT,tT,tT,tT,tT,tT,tT,tT,tT,tT] HT_ rfl rfl (by kernel_rfl) (fun _ _ _ h=>h) (by rfl) (by intro w';go_simp;with_reducible rfl) (by simp only [Act.put,sI,sZ,sS,i64_w,i32_w];rfl) ?_
            refine done_ (done_of HT_.out (by kernel_rfl)) ?_
            try go_wp2
            refine bodyPost_ret (results_ct rfl _ _ gb560 25 #[.string t594,.string t595] (0,0) _ rfl (by (with_reducible repeat (first|apply yN|apply yD|apply yA));refine blk_put (cs:=#[.string t594,.string x561001_2]) ?_ 1 _ rfl;(with_reducible repeat (first|apply yN|apply yD|apply yA));refine blk_put (cs:=#[.string x561000_2,.string x561001_2]) ?_ 0 _ rfl;(with_reducible repeat (first|apply yN|apply yD|apply yA));exact BK560.out) Try.underlying25 rfl (by kernel_rfl)) rfl ?_
            exact ⟨rfl,by first|exact bb HB|exact bg HB GE558|exact bg HB GE559|exact bg HB GE560|exact bg HB GE570⟩
           ·rw [if_neg c102] at H
            exact absurd H (by simp)
          ·rw [if_neg c100] at H
           have c100b0:(((((rd_T50 x7_1 x13_2).f0.f0).toList) == x560000_1.toList && ((((rd_T50 x7_1 x13_2).f0.f1).toList) == x560001_1.toList)) && (((((rd_T50 x7_1 x13_2).f1.f0).toList) == x560002_1.toList && ((((rd_T50 x7_1 x13_2).f1.f1).toList) == x560003_1.toList)) && (((((rd_T50 x7_1 x13_2).f2.f0).toList) == x560004_1.toList && ((((rd_T50 x7_1 x13_2).f2.f1).toList) == x560005_1.toList))))) = false:=by simpa using c100
           clear c100
           have H':=aM H
           clear H
           obtain ⟨Ao118,co118,eo118⟩:=Kd.R_slice HO_7.out
           subst eo118
           try go_wp2
           replace HO_6:=aM (rD HO_6.out);replace HO_7:=aM (rD HO_7.out);replace BK558:=aM (yD BK558.out);replace BK559:=aM (yD BK559.out);replace BK560:=aM (yD BK560.out);replace BK570:=aM (yD BK570.out);replace HB:=aM (zD HB.out)
           have p585:0 ≤ (x13_2:Int):=of_decide_eq_true (by assumption)
           have q585:x13_2 < (x7_1.length:Int):=of_decide_eq_true (by assumption)
           obtain ⟨ad585,e585,hx585_0,hx585_1,hx585_2,hx585_3,hx585_4,hx585_5⟩:=at_T50 (Kd.R_reads' HO_7.out).2.2 x13_2 p585 q585
           cases e585
           replace p585:=eq_true p585;replace q585:=eq_true q585
           refine start_ (n:=6) (S:=fun w'=>w'.cell? ⟨gb559,0,none⟩ = some (.string x560000_1) ∧ w'.cell? ⟨gb559,1,none⟩ = some (.string x560001_1) ∧ w'.cell? ⟨gb559,2,none⟩ = some (.string x560002_1) ∧ w'.cell? ⟨gb559,3,none⟩ = some (.string x560003_1) ∧ w'.cell? ⟨gb559,4,none⟩ = some (.string x560004_1) ∧ w'.cell? ⟨gb559,5,none⟩ = some (.string x560005_1) ∧ w'.cell? (ad585.add ((x13_2).toNat * 6)) = some (.string ((rd_T50 x7_1 x13_2).f0.f0)) ∧ w'.cell? ⟨(ad585.add ((x13_2).toNat * 6)).block,(ad585.add ((x13_2).toNat * 6)).off + 1,none⟩ = some (.string ((rd_T50 x7_1 x13_2).f0.f1)) ∧ w'.cell? ⟨(ad585.add ((x13_2).toNat * 6)).block,(ad585.add ((x13_2).toNat * 6)).off + 2,none⟩ = some (.string ((rd_T50 x7_1 x13_2).f1.f0)) ∧ w'.cell? ⟨(ad585.add ((x13_2).toNat * 6)).block,(ad585.add ((x13_2).toNat * 6)).off + 3,none⟩ = some (.string ((rd_T50 x7_1 x13_2).f1.f1)) ∧ w'.cell? ⟨(ad585.add ((x13_2).toNat * 6)).block,(ad585.add ((x13_2).toNat * 6)).off + 4,none⟩ = some (.string ((rd_T50 x7_1 x13_2).f2.f0)) ∧ w'.cell? ⟨(ad585.add ((x13_2).toNat * 6)).block,(ad585.add ((x13_2).toNat * 6)).off + 5,none⟩ = some (.string ((rd_T50 x7_1 x13_2).f2.f1))) (ds:=[]) #[fF,fF,fF,fF,fF,fF] (by kernel_rfl) rfl rfl ⟨(blk_cell BK559.out 0).trans rfl,(blk_cell BK559.out 1).trans rfl,(blk_cell BK559.out 2).trans rfl,(blk_cell BK559.out 3).trans rfl,(blk_cell BK559.out 4).trans rfl,(blk_cell BK559.out 5).trans rfl,hx585_0,hx585_1,hx585_2,hx585_3,hx585_4,hx585_5⟩ (fun hHeld=>?_)
           generalize wr.drew = w119 at HO_6 HO_7 BK558 BK559 BK560 BK570 HB hx585_0 hx585_1 hx585_2 hx585_3 hx585_4 hx585_5 hHeld ⊢
           refine pure_ (i:=0) (N:=some 65) (v:=?_) (a':=?_) #[tT,fF,fF,fF,fF,fF] rfl rfl (by kernel_rfl) (fun _ _ _ h=>h) (Or.inl ⟨by rfl,?_⟩) ?_ ?_
           rotate_left
           ·intro w'
            go_simp
            with_reducible rfl
           rotate_left
           ·simp only [Act.put,sI,sZ,sS,i64_w,i32_w]
            rfl
           refine pure_ (i:=1) (N:=some 66) (v:=?_) (a':=?_) #[tT,tT,fF,fF,fF,fF] rfl rfl (by kernel_rfl) (fun _ _ _ h=>h) (Or.inl ⟨by rfl,?_⟩) ?_ ?_
           rotate_left
           ·intro w'
            go_simp
            with_reducible rfl
           rotate_left
           ·simp only [Act.put,sI,sZ,sS,i64_w,i32_w]
            rfl
           refine pure_ (i:=2) (N:=some 67) (v:=?_) (a':=?_) #[tT,tT,tT,fF,fF,fF] rfl rfl (by kernel_rfl) (fun _ _ _ h=>h) (Or.inl ⟨by rfl,?_⟩) ?_ ?_
           rotate_left
           ·intro w'
            go_simp
            with_reducible rfl
           rotate_left
           ·simp only [Act.put,sI,sZ,sS,i64_w,i32_w]
            rfl
           refine take_ (i:=3) (N:=some 68) (v:=?_) (a':=?_) #[tT,tT,tT,tT,fF,fF] rfl rfl (by kernel_rfl) (fun _ _ _ h=>h) (Or.inl ⟨by rfl,?_⟩) hHeld ?_ ?_
           rotate_left
           ·rintro w' ⟨s0,s1,s2,s3,s4,s5,s6,s7,s8,s9,s10,s11⟩
            go_simp
            with_reducible rfl
           rotate_left
           ·simp only [Act.put,sI,sZ,sS,i64_w,i32_w]
            rfl
           refine take_ (i:=4) (N:=some 69) (v:=?_) (a':=?_) #[tT,tT,tT,tT,tT,fF] rfl rfl (by kernel_rfl) (fun _ _ _ h=>h) (Or.inl ⟨by rfl,?_⟩) hHeld ?_ ?_
           rotate_left
           ·rintro w' ⟨s0,s1,s2,s3,s4,s5,s6,s7,s8,s9,s10,s11⟩
            go_simp
            with_reducible rfl
           rotate_left
           ·simp only [Act.put,sI,sZ,sS,i64_w,i32_w]
            rfl
           refine pure_ (i:=5) (N:=some 70) (v:=?_) (a':=?_) #[tT,tT,tT,tT,tT,tT] rfl rfl (by kernel_rfl) (fun _ _ _ h=>h) (Or.inl ⟨by rfl,?_⟩) ?_ ?_
           rotate_left
           ·intro w'
            go_simp
            with_reducible rfl
           rotate_left
           ·simp only [Act.put,sI,sZ,sS,i64_w,i32_w]
            rfl
           refine done_ (by kernel_rfl) ?_
           try go_wp2
           go_roundg k2
           case measure=>have:=HK1.out;have:=HK2.out;omega
           case rel=>exact ⟨(wrap64 (x13_2 + 1)),(x561000_2),(x561001_2),(by first|rfl|(simp;done)|(simp [*];done)),H',⟨by have:=HK1.out;have:=HK2.out;omega⟩,⟨rk HO_6⟩,⟨rk HO_7⟩,⟨bk BK558⟩,⟨bk BK559⟩,⟨bk BK560⟩,⟨bk BK570⟩,⟨by first|exact bb HB|exact bg HB GE558|exact bg HB GE559|exact bg HB GE560|exact bg HB GE570⟩⟩
         ·rw [if_neg c99] at H
          exact absurd H (by simp)
        ·rw [if_neg c98] at H
         have c98b0:decide (x13_2 < (x7_1.length:Int)) = false:=decide_eq_false c98
         clear c98
         by_cases c120:x7_1.length < 1466015503701
         ·rw [if_pos c120] at H
          have LMc120:=aM c120
          clear c120
          obtain ⟨y597,hy597⟩:∃ y_:List (S50),y_ = (x7_1 ++ [(⟨(⟨x560000_1,x560001_1⟩:S25),(⟨x560002_1,x560003_1⟩:S25),(⟨x560004_1,x560005_1⟩:S25)⟩:S50)]):=⟨_,rfl⟩
          replace H:(if x6_1.length < 140737488355328 then (spec_l06Middle.l2 k2 (x6_1 ++ [t574]) y597 x8_1 t574 0 a0_0 a0_1 x560000_1 x560001_1 x560002_1 x560003_1 x560004_1 x560005_1) else (none)) = some (r1,r2,r3):=by first|(rw [hy597];with_reducible exact H)|(have H2_:=(Option.bind_some _ _).symm.trans H;rw [hy597];with_reducible exact H2_)|(have H2_:=(Option.bind_some _ _).symm.trans H;with_reducible exact H2_)|with_reducible exact H|(rw [hy597];exact H)|exact H
          have Ny597:=aM hy597
          clear hy597
          by_cases c121:x6_1.length < 140737488355328
          ·rw [if_pos c121] at H
           have LMc121:=aM c121
           clear c121
           obtain ⟨y600,hy600⟩:∃ y_:List Int,y_ = (x6_1 ++ [t574]):=⟨_,rfl⟩
           replace H:(spec_l06Middle.l2 k2 y600 y597 x8_1 t574 0 a0_0 a0_1 x560000_1 x560001_1 x560002_1 x560003_1 x560004_1 x560005_1) = some (r1,r2,r3):=by first|(rw [hy600];with_reducible exact H)|(have H2_:=(Option.bind_some _ _).symm.trans H;rw [hy600];with_reducible exact H2_)|(have H2_:=(Option.bind_some _ _).symm.trans H;with_reducible exact H2_)|with_reducible exact H|(rw [hy600];exact H)|exact H
           have Ny600:=aM hy600
           clear hy600
           have H':=aM H
           clear H
           obtain ⟨Ao122,co122,eo122⟩:=Kd.R_slice HO_7.out
           subst eo122
           have hnb123:=NB559_558.out
           have hnc123:=NB558_559.out
           have hnb124:=NB559_560.out
           have hnc124:=NB560_559.out
           have hnb125:=NB559_570.out
           have hnc125:=NB570_559.out
           have⟨a0,a1,a2,a3,a4,a5,b0,b1,b2,b3,b4,b5⟩:=q6f BK559
           go_wp2_with (first|((with_reducible refine gate_builtin (b:=.append) (xs:=#[.tmp 82,.tmp 84]) rfl ?_);at_builtin;refine Kd.R_append k50 (w0:=w) w.heap.size rfl (.tmp 82) (.tmp 84) 84 50 (.agg #[(.string ⟨#[]⟩),(.string ⟨#[]⟩),(.string ⟨#[]⟩),(.string ⟨#[]⟩),(.string ⟨#[]⟩),(.string ⟨#[]⟩)]) 96 rfl Try.underlying84 info50 rfl (by decide) (by omega) (.slice Ao122 x7_1.length co122) x7_1 (⟨(⟨x560000_1,x560001_1⟩:S25),(⟨x560002_1,x560003_1⟩:S25),(⟨x560004_1,x560005_1⟩:S25)⟩:S50) [.string x560000_1,.string x560001_1,.string x560002_1,.string x560003_1,.string x560004_1,.string x560005_1] (fun k_=>k_ ≠ gb559) (fun _=>False) rfl rfl ?aP (fun _ hk=>hk.elim) ?aF ?aO ?aB ?aS ?aL ?_;(case aP=>exact k50_mkM _ _ _ (⟨(⟨x560000_1,x560001_1⟩:S25),(⟨x560002_1,x560003_1⟩:S25),(⟨x560004_1,x560005_1⟩:S25)⟩:S50));(case aB=>exact (by first|exact bb HB|exact bg HB GE558|exact bg HB GE559|exact bg HB GE560|exact bg HB GE570));(case aF=>exact (fun k_ hk=>Kd.freshB (g:=gb559) (o:=.cells #[.string x560000_1,.string x560001_1,.string x560002_1,.string x560003_1,.string x560004_1,.string x560005_1] 50 (0,0)) (bk BK559) k_ hk));(case aO=>exact (rk HO_7));(case aS=>exact (below_size (by first|exact bb HB|exact bg HB GE558|exact bg HB GE559|exact bg HB GE560|exact bg HB GE570)));(case aL=>have:=LMc120.out;omega);intro v598 w127 ho hb hg hat;rw [← Ny597.out] at ho;have n0_:=aM (Kd.R_over' (rk HO_6) (Kd.R_typed (rk HO_7)) (by decide) hg);have n1_:=aM (blk_grown (g:=gb558) (o:=.cells #[.string a0_0,.string a0_1] 25 (0,0)) (bk BK558) hg (Kd.R_ne HO_7.out BK558.out (by decide)));have n2_:=aM (blk_grown (g:=gb559) (o:=.cells #[.string x560000_1,.string x560001_1,.string x560002_1,.string x560003_1,.string x560004_1,.string x560005_1] 50 (0,0)) (bk BK559) hg (Kd.R_away HO_7.out (fun _ hk=>hk)));have n3_:=aM (blk_grown (g:=gb560) (o:=.cells #[.string x561000_2,.string x561001_2] 25 (0,0)) (bk BK560) hg (Kd.R_ne HO_7.out BK560.out (by decide)));have n4_:=aM (blk_grown (g:=gb570) (o:=.cells #[.string t567,.string t568] 25 (0,0)) (bk BK570) hg (Kd.R_ne HO_7.out BK570.out (by decide)));have n5_:=aM (hb);have n6_:=aM (ho);clear HO_6;clear BK558;clear BK559;clear BK560;clear BK570;clear HB;clear HO_7;have HO_6:=n0_;have BK558:=n1_;have BK559:=n2_;have BK560:=n3_;have BK570:=n4_;have HB:=n5_;have HO599:=n6_;clear n0_ n1_ n2_ n3_ n4_ n5_ n6_;clear ho hb hg hat)|((with_reducible refine gate_builtin (b:=.append) (xs:=#[.tmp 86,.tmp 88]) rfl ?_);at_builtin;refine Kd.R_append (Kd.int .u8) (w0:=w) w.heap.size rfl (.tmp 86) (.tmp 88) 22 5 (.int .u8 0) 1 rfl Try.underlying22 info5 rfl (by decide) (by omega) u6 x6_1 t574 [.int .u8 t574] (fun _=>True) (fun _=>False) rfl rfl ?aP (fun _ hk=>hk.elim) ?aF ?aO ?aB ?aS ?aL ?_;(case aP=>exact rfl);(case aB=>exact (by first|exact bb HB|exact bg HB GE558|exact bg HB GE559|exact bg HB GE560|exact bg HB GE570));(case aF=>exact (fun _ _=>trivial));(case aO=>exact (rk HO_6));(case aS=>exact (below_size (by first|exact bb HB|exact bg HB GE558|exact bg HB GE559|exact bg HB GE560|exact bg HB GE570)));(case aL=>have:=LMc121.out;omega);intro v601 w128 ho hb hg hat;rw [← Ny600.out] at ho;have n0_:=aM (blk_grown (g:=gb558) (o:=.cells #[.string a0_0,.string a0_1] 25 (0,0)) (bk BK558) hg (Kd.R_ne HO_6.out BK558.out (by decide)));have n1_:=aM (blk_grown (g:=gb559) (o:=.cells #[.string x560000_1,.string x560001_1,.string x560002_1,.string x560003_1,.string x560004_1,.string x560005_1] 50 (0,0)) (bk BK559) hg (Kd.R_ne HO_6.out BK559.out (by decide)));have n2_:=aM (blk_grown (g:=gb560) (o:=.cells #[.string x561000_2,.string x561001_2] 25 (0,0)) (bk BK560) hg (Kd.R_ne HO_6.out BK560.out (by decide)));have n3_:=aM (blk_grown (g:=gb570) (o:=.cells #[.string t567,.string t568] 25 (0,0)) (bk BK570) hg (Kd.R_ne HO_6.out BK570.out (by decide)));have n4_:=aM (Kd.R_over' (rk HO599) (Kd.R_typed (rk HO_6)) (by decide) hg);have n5_:=aM (hb);have n6_:=aM (ho);clear BK558;clear BK559;clear BK560;clear BK570;clear HO599;clear HB;clear HO_6;have BK558:=n0_;have BK559:=n1_;have BK560:=n2_;have BK570:=n3_;have HO599:=n4_;have HB:=n5_;have HO602:=n6_;clear n0_ n1_ n2_ n3_ n4_ n5_ n6_;clear ho hb hg hat))
           go_loopg [14] k2 (fun kq v14 w'=>∃ (x14_3:Int) (x560000_3:ByteArray) (x560001_3:ByteArray) (x560002_3:ByteArray) (x560003_3:ByteArray) (x560004_3:ByteArray) (x560005_3:ByteArray),v14 = .int .i64 x14_3 ∧ Aside0 (spec_l06Middle.l2 kq y600 y597 x8_1 t574 x14_3 a0_0 a0_1 x560000_3 x560001_3 x560002_3 x560003_3 x560004_3 x560005_3 = some (r1,r2,r3)) ∧ Aside0 (kq ≤ k2) ∧ Aside0 (Kd.R (Kd.int .u8) 5 w' w.heap.size (fun _=>True) v601 y600) ∧ Aside0 (Kd.R k50 50 w' w.heap.size (fun k_=>k_ ≠ gb559) v598 y597) ∧ Aside0 (w'.heap[gb558]? = some (.cells #[.string a0_0,.string a0_1] 25 (0,0))) ∧ Aside0 (w'.heap[gb559]? = some (.cells #[.string x560000_3,.string x560001_3,.string x560002_3,.string x560003_3,.string x560004_3,.string x560005_3] 50 (0,0))) ∧ Aside0 (w'.heap[gb560]? = some (.cells #[.string x561000_2,.string x561001_2] 25 (0,0))) ∧ Aside0 (w'.heap[gb570]? = some (.cells #[.string t567,.string t568] 25 (0,0))) ∧ Aside0 (Below w.heap.size w w'))
           case atStart=>exact ⟨(0),(x560000_1),(x560001_1),(x560002_1),(x560003_1),(x560004_1),(x560005_1),(by first|rfl|(simp;done)|(simp [*];done)),H',⟨Nat.le_refl _⟩,⟨rk HO602⟩,⟨rk HO599⟩,⟨bk BK558⟩,⟨bk BK559⟩,⟨bk BK560⟩,⟨bk BK570⟩,⟨by first|exact bb HB|exact bg HB GE558|exact bg HB GE559|exact bg HB GE560|exact bg HB GE570⟩⟩
           case round =>
            clear H'
            try clear c1
            try clear q1
            try clear hcv1
            try clear c2
            try clear p2
            try clear c3
            try clear c4
            try clear c5
            try clear p5
            try clear q5
            try clear hx5
            try clear c6
            try clear p6
            try clear hcv6
            try clear c7
            try clear c8
            try clear hcv8
            try clear c9
            try clear c10
            try clear q10
            try clear c11
            try clear q11
            try clear hcv11
            try clear c12
            try clear c29
            try clear c29b0
            try clear c30
            try clear c31
            try clear c49
            try clear c50
            try clear c50b0
            try clear c50b1
            try clear c50b2
            try clear c52
            try clear c53
            try clear c55
            try clear c56
            try clear c57
            try clear c58
            try clear p58
            try clear q58
            try clear hx58
            try clear c59
            try clear p64
            try clear hcv64
            try clear c68
            try clear c69
            try clear c69b0
            try clear c69b1
            try clear c69b2
            try clear c71
            try clear c72
            try clear c76
            try clear c77
            try clear c78
            try clear hcv83
            try clear c87
            try clear c88
            try clear c92
            try clear c93
            try clear c94
            try clear c98
            try clear c98b0
            try clear c99
            try clear c99b0
            try clear c100
            try clear c100b0
            try clear c101
            try clear c101b0
            try clear c102
            try clear c102b0
            try clear c102b1
            try clear c103
            try clear c103b0
            try clear c104
            try clear c104b0
            try clear q109
            try clear c111
            try clear q111
            try clear hcv112
            try clear hcv113
            try clear c120
            try clear c121
            try clear c123
            try clear c124
            try clear c125
            try clear hcz126_0
            try clear hcz126_1
            try clear hcz126_2
            try clear hcz126_3
            try clear hcz126_4
            try clear hcz126_5
            try clear hcz54_0
            try clear hcz54_1
            try clear hcz54_2
            try clear hcz54_3
            try clear hcz54_4
            try clear hcz54_5
            try clear hcz60_0
            try clear hcz60_1
            try clear hcz61_0
            try clear hcz61_1
            try clear hcz61_2
            try clear hcz61_3
            try clear hcz61_4
            try clear hcz61_5
            try clear hcz73_0
            try clear hcz73_1
            try clear hcz73_2
            try clear hcz73_3
            try clear hcz73_4
            try clear hcz73_5
            try clear hcz79_0
            try clear hcz79_1
            try clear hcz80_0
            try clear hcz80_1
            try clear hcz80_2
            try clear hcz80_3
            try clear hcz80_4
            try clear hcz80_5
            try clear hcz89_0
            try clear hcz89_1
            try clear hcz89_2
            try clear hcz89_3
            try clear hcz89_4
            try clear hcz89_5
            try clear hcz95_0
            try clear hcz95_1
            try clear hcz96_0
            try clear hcz96_1
            try clear hcz96_2
            try clear hcz96_3
            try clear hcz96_4
            try clear hcz96_5
            try clear hfz126_0
            try clear hfz126_1
            try clear hfz126_2
            try clear hfz126_3
            try clear hfz126_4
            try clear hfz126_5
            try clear hfz54_0
            try clear hfz54_1
            try clear hfz54_2
            try clear hfz54_3
            try clear hfz54_4
            try clear hfz54_5
            try clear hfz60_0
            try clear hfz60_1
            try clear hfz61_0
            try clear hfz61_1
            try clear hfz61_2
            try clear hfz61_3
            try clear hfz61_4
            try clear hfz61_5
            try clear hfz73_0
            try clear hfz73_1
            try clear hfz73_2
            try clear hfz73_3
            try clear hfz73_4
            try clear hfz73_5
            try clear hfz79_0
            try clear hfz79_1
            try clear hfz80_0
            try clear hfz80_1
            try clear hfz80_2
            try clear hfz80_3
            try clear hfz80_4
            try clear hfz80_5
            try clear hfz89_0
            try clear hfz89_1
            try clear hfz89_2
            try clear hfz89_3
            try clear hfz89_4
            try clear hfz89_5
            try clear hfz95_0
            try clear hfz95_1
            try clear hfz96_0
            try clear hfz96_1
            try clear hfz96_2
            try clear hfz96_3
            try clear hfz96_4
            try clear hfz96_5
            try clear hx585_0
            try clear hx585_1
            try clear hx585_2
            try clear hx585_3
            try clear hx585_4
            try clear hx585_5
            try clear p585
            try clear q0111
            try clear q109
            try clear q111
            try clear q585
            obtain ⟨x14_3,x560000_3,x560001_3,x560002_3,x560003_3,x560004_3,x560005_3,rfl,HA,HK3,HO_6,HO_7,BK558,BK559,BK560,BK570,HB⟩:=hrel
            cases gk with
            | zero=>exact absurd HA.out (by simp [spec_l06Middle.l2])
            | succ k3 =>
             have H:=HA.out
             clear HA
             simp only [spec_l06Middle.l2] at H
             by_cases c129:x14_3 < 3
             ·rw [if_pos c129] at H
              have c129b0:decide (x14_3 < 3) = true:=decide_eq_true c129
              clear c129
              by_cases c130:x14_3 = 0
              ·subst c130
               have H1:((spec_l01At.f x560000_3 x560001_3 0).bind fun t603=>(if t603 = t574 then ((spec_l01Shift.f x560000_3 x560001_3).bind fun bt604=>(spec_l06Middle.l2 k3 y600 y597 x8_1 t574 (0 + 1) a0_0 a0_1 bt604.1 bt604.2 x560002_3 x560003_3 x560004_3 x560005_3)) else (if t603 = 42 then ((spec_l01Shift.f x560000_3 x560001_3).bind fun bt606=>(spec_l06Middle.l2 k3 y600 y597 x8_1 t574 (0 + 1) a0_0 a0_1 bt606.1 bt606.2 x560002_3 x560003_3 x560004_3 x560005_3)) else (spec_l06Middle.l2 k3 y600 y597 x8_1 t574 (0 + 1) a0_0 a0_1 a0_0 a0_1 x560002_3 x560003_3 x560004_3 x560005_3)))) = some (r1,r2,r3):=by rw [if_pos rfl] at H;exact H
               clear H
               have H:=H1
               clear H1
               replace H:=Option.bind_eq_some_iff.mp H
               obtain ⟨t603,A1310,H⟩:=H
               replace H:(if t603 = t574 then ((spec_l01Shift.f x560000_3 x560001_3).bind fun bt604=>(spec_l06Middle.l2 k3 y600 y597 x8_1 t574 (0 + 1) a0_0 a0_1 bt604.1 bt604.2 x560002_3 x560003_3 x560004_3 x560005_3)) else (if t603 = 42 then ((spec_l01Shift.f x560000_3 x560001_3).bind fun bt606=>(spec_l06Middle.l2 k3 y600 y597 x8_1 t574 (0 + 1) a0_0 a0_1 bt606.1 bt606.2 x560002_3 x560003_3 x560004_3 x560005_3)) else (spec_l06Middle.l2 k3 y600 y597 x8_1 t574 (0 + 1) a0_0 a0_1 a0_0 a0_1 x560002_3 x560003_3 x560004_3 x560005_3))) = some (r1,r2,r3):=H;have A131:=aM A1310
               clear A1310
               by_cases c132:t603 = t574
               ·rw [if_pos c132] at H
                have c132b0:(t603 == t574) = true:=beq_iff_eq.mpr c132
                have c132b1:(t603 != t574) = false:=bne_eq_false_iff_eq.mpr c132
                clear c132
                replace H:=Option.bind_eq_some_iff.mp H
                obtain ⟨⟨t604,t605⟩,A1330,H⟩:=H
                replace H:(spec_l06Middle.l2 k3 y600 y597 x8_1 t574 (0 + 1) a0_0 a0_1 t604 t605 x560002_3 x560003_3 x560004_3 x560005_3) = some (r1,r2,r3):=H;have A133:=aM A1330
                clear A1330
                have H':=aM H
                clear H
                have hnb134:=NB559_558.out
                have hnc134:=NB558_559.out
                have hnb135:=NB559_560.out
                have hnc135:=NB560_559.out
                have hnb136:=NB559_570.out
                have hnc136:=NB570_559.out
                have⟨a0,a1,a2,a3,a4,a5,b0,b1,b2,b3,b4,b5⟩:=q6f BK559
                go_wp2_with (first|((with_reducible refine gate_callee (f:=49) rfl ?_);refine goesL_ (some 97) rfl rfl Try.func49 (by kernel_rfl) rfl #[.agg #[.string x560000_3,.string x560001_3],.int .i64 0] rfl (by (try simp only [sM,sC,sN]);first|done|rfl) ?_;(with_reducible refine (spec_l01At.calls x560000_3 x560001_3 0 t603 _ A131.out).mono ?_);rintro e w138 ⟨rfl,hb⟩;refine ⟨_,rfl,?_⟩;replace HO_6:=ko HO_6 hb;replace HO_7:=ko HO_7 hb;replace BK558:=kb BK558 hb;replace BK559:=kb BK559 hb;replace BK560:=kb BK560 hb;replace BK570:=kb BK570 hb;replace HB:=aM (below_step (by first|exact bb HB|exact bg HB GE558|exact bg HB GE559|exact bg HB GE560|exact bg HB GE570) hb);(try clear hb);have⟨a0,a1,a2,a3,a4,a5,b0,b1,b2,b3,b4,b5⟩:=q6f BK559)|((with_reducible refine gate_callee (f:=48) rfl ?_);refine goesL_ (some 109) rfl rfl Try.func48 (by kernel_rfl) rfl #[.agg #[.string x560000_3,.string x560001_3]] rfl (by (try simp only [sM,sC,sN]);first|done|rfl) ?_;(with_reducible refine (spec_l01Shift.calls x560000_3 x560001_3 t604 t605 _ A133.out).mono ?_);rintro e w140 ⟨rfl,hb⟩;refine ⟨_,rfl,?_⟩;replace HO_6:=ko HO_6 hb;replace HO_7:=ko HO_7 hb;replace BK558:=kb BK558 hb;replace BK559:=kb BK559 hb;replace BK560:=kb BK560 hb;replace BK570:=kb BK570 hb;replace HB:=aM (below_step (by first|exact bb HB|exact bg HB GE558|exact bg HB GE559|exact bg HB GE560|exact bg HB GE570) hb);(try clear hb);have⟨a0,a1,a2,a3,a4,a5,b0,b1,b2,b3,b4,b5⟩:=q6f BK559))
                go_roundg k3
                case measure=>have:=HK1.out;have:=HK2.out;have:=HK3.out;omega
                case rel=>exact ⟨(0 + 1),(t604),(t605),(x560002_3),(x560003_3),(x560004_3),(x560005_3),(by first|rfl|(simp;done)|(simp [*];done)),H',⟨by have:=HK1.out;have:=HK2.out;have:=HK3.out;omega⟩,⟨by (with_reducible repeat (first|apply rA|apply rN|apply rD));exact Kd.R_mono (Kd.R_far (p:=⟨gb559,1,none⟩) (Kd.R_far (p:=⟨gb559,0,none⟩) (Kd.R_types HO_6.out BK559.out (by decide)) (fun _ hk=>hk.2) (.string t604)) (fun _ hk=>hk.2) (.string t605)) (fun _ hk=>trivial)⟩,⟨by (with_reducible repeat (first|apply rA|apply rN|apply rD));exact Kd.R_mono (Kd.R_far (p:=⟨gb559,1,none⟩) (Kd.R_far (p:=⟨gb559,0,none⟩) (Kd.R_mono HO_7.out (fun k_ hk=>(⟨hk,hk⟩:_ ∧ k_ ≠ gb559))) (fun _ hk=>hk.2) (.string t604)) (fun _ hk=>hk.2) (.string t605)) (fun _ hk=>hk.1)⟩,⟨bf BK558 NB558_559⟩,⟨by (with_reducible repeat (first|apply yN|apply yD|apply yA));refine blk_put (cs:=#[.string t604,.string x560001_3,.string x560002_3,.string x560003_3,.string x560004_3,.string x560005_3]) ?_ 1 _ rfl;(with_reducible repeat (first|apply yN|apply yD|apply yA));refine blk_put (cs:=#[.string x560000_3,.string x560001_3,.string x560002_3,.string x560003_3,.string x560004_3,.string x560005_3]) ?_ 0 _ rfl;(with_reducible repeat (first|apply yN|apply yD|apply yA));exact BK559.out⟩,⟨bf BK560 NB560_559⟩,⟨bf BK570 NB570_559⟩,⟨by first|exact bb HB|exact bg HB GE558|exact bg HB GE559|exact bg HB GE560|exact bg HB GE570⟩⟩
               ·rw [if_neg c132] at H
                have c132b0:(t603 == t574) = false:=beq_eq_false_iff_ne.mpr c132
                have c132b1:(t603 != t574) = true:=bne_iff_ne.mpr c132
                by_cases c142:t603 = 42
                ·rw [if_pos c142] at H
                 have c142b0:(t603 == 42) = true:=beq_iff_eq.mpr c142
                 have c142b1:(t603 != 42) = false:=bne_eq_false_iff_eq.mpr c142
                 clear c142
                 replace H:=Option.bind_eq_some_iff.mp H
                 obtain ⟨⟨t606,t607⟩,A1430,H⟩:=H
                 replace H:(spec_l06Middle.l2 k3 y600 y597 x8_1 t574 (0 + 1) a0_0 a0_1 t606 t607 x560002_3 x560003_3 x560004_3 x560005_3) = some (r1,r2,r3):=H;have A143:=aM A1430
                 clear A1430
                 have H':=aM H
                 clear H
                 have hnb144:=NB559_558.out
                 have hnc144:=NB558_559.out
                 have hnb145:=NB559_560.out
                 have hnc145:=NB560_559.out
                 have hnb146:=NB559_570.out
                 have hnc146:=NB570_559.out
                 have⟨a0,a1,a2,a3,a4,a5,b0,b1,b2,b3,b4,b5⟩:=q6f BK559
                 go_wp2_with (first|((with_reducible refine gate_callee (f:=49) rfl ?_);refine goesL_ (some 97) rfl rfl Try.func49 (by kernel_rfl) rfl #[.agg #[.string x560000_3,.string x560001_3],.int .i64 0] rfl (by (try simp only [sM,sC,sN]);first|done|rfl) ?_;(with_reducible refine (spec_l01At.calls x560000_3 x560001_3 0 t603 _ A131.out).mono ?_);rintro e w148 ⟨rfl,hb⟩;refine ⟨_,rfl,?_⟩;replace HO_6:=ko HO_6 hb;replace HO_7:=ko HO_7 hb;replace BK558:=kb BK558 hb;replace BK559:=kb BK559 hb;replace BK560:=kb BK560 hb;replace BK570:=kb BK570 hb;replace HB:=aM (below_step (by first|exact bb HB|exact bg HB GE558|exact bg HB GE559|exact bg HB GE560|exact bg HB GE570) hb);(try clear hb);have⟨a0,a1,a2,a3,a4,a5,b0,b1,b2,b3,b4,b5⟩:=q6f BK559)|((with_reducible refine gate_callee (f:=48) rfl ?_);refine goesL_ (some 109) rfl rfl Try.func48 (by kernel_rfl) rfl #[.agg #[.string x560000_3,.string x560001_3]] rfl (by (try simp only [sM,sC,sN]);first|done|rfl) ?_;(with_reducible refine (spec_l01Shift.calls x560000_3 x560001_3 t606 t607 _ A143.out).mono ?_);rintro e w150 ⟨rfl,hb⟩;refine ⟨_,rfl,?_⟩;replace HO_6:=ko HO_6 hb;replace HO_7:=ko HO_7 hb;replace BK558:=kb BK558 hb;replace BK559:=kb BK559 hb;replace BK560:=kb BK560 hb;replace BK570:=kb BK570 hb;replace HB:=aM (below_step (by first|exact bb HB|exact bg HB GE558|exact bg HB GE559|exact bg HB GE560|exact bg HB GE570) hb);(try clear hb);have⟨a0,a1,a2,a3,a4,a5,b0,b1,b2,b3,b4,b5⟩:=q6f BK559))
                 go_roundg k3
                 case measure=>have:=HK1.out;have:=HK2.out;have:=HK3.out;omega
                 case rel=>exact ⟨(0 + 1),(t606),(t607),(x560002_3),(x560003_3),(x560004_3),(x560005_3),(by first|rfl|(simp;done)|(simp [*];done)),H',⟨by have:=HK1.out;have:=HK2.out;have:=HK3.out;omega⟩,⟨by (with_reducible repeat (first|apply rA|apply rN|apply rD));exact Kd.R_mono (Kd.R_far (p:=⟨gb559,1,none⟩) (Kd.R_far (p:=⟨gb559,0,none⟩) (Kd.R_types HO_6.out BK559.out (by decide)) (fun _ hk=>hk.2) (.string t606)) (fun _ hk=>hk.2) (.string t607)) (fun _ hk=>trivial)⟩,⟨by (with_reducible repeat (first|apply rA|apply rN|apply rD));exact Kd.R_mono (Kd.R_far (p:=⟨gb559,1,none⟩) (Kd.R_far (p:=⟨gb559,0,none⟩) (Kd.R_mono HO_7.out (fun k_ hk=>(⟨hk,hk⟩:_ ∧ k_ ≠ gb559))) (fun _ hk=>hk.2) (.string t606)) (fun _ hk=>hk.2) (.string t607)) (fun _ hk=>hk.1)⟩,⟨bf BK558 NB558_559⟩,⟨by (with_reducible repeat (first|apply yN|apply yD|apply yA));refine blk_put (cs:=#[.string t606,.string x560001_3,.string x560002_3,.string x560003_3,.string x560004_3,.string x560005_3]) ?_ 1 _ rfl;(with_reducible repeat (first|apply yN|apply yD|apply yA));refine blk_put (cs:=#[.string x560000_3,.string x560001_3,.string x560002_3,.string x560003_3,.string x560004_3,.string x560005_3]) ?_ 0 _ rfl;(with_reducible repeat (first|apply yN|apply yD|apply yA));exact BK559.out⟩,⟨bf BK560 NB560_559⟩,⟨bf BK570 NB570_559⟩,⟨by first|exact bb HB|exact bg HB GE558|exact bg HB GE559|exact bg HB GE560|exact bg HB GE570⟩⟩
                ·rw [if_neg c142] at H
                 have c142b0:(t603 == 42) = false:=beq_eq_false_iff_ne.mpr c142
                 have c142b1:(t603 != 42) = true:=bne_iff_ne.mpr c142
                 have H':=aM H
                 clear H
                 have hnb152:=NB559_558.out
                 have hnc152:=NB558_559.out
                 have hnb153:=NB559_560.out
                 have hnc153:=NB560_559.out
                 have hnb154:=NB559_570.out
                 have hnc154:=NB570_559.out
                 have⟨a0,a1,a2,a3,a4,a5,b0,b1,b2,b3,b4,b5⟩:=q6f BK559
                 go_wp2_with (first|((with_reducible refine gate_callee (f:=49) rfl ?_);refine goesL_ (some 97) rfl rfl Try.func49 (by kernel_rfl) rfl #[.agg #[.string x560000_3,.string x560001_3],.int .i64 0] rfl (by (try simp only [sM,sC,sN]);first|done|rfl) ?_;(with_reducible refine (spec_l01At.calls x560000_3 x560001_3 0 t603 _ A131.out).mono ?_);rintro e w156 ⟨rfl,hb⟩;refine ⟨_,rfl,?_⟩;replace HO_6:=ko HO_6 hb;replace HO_7:=ko HO_7 hb;replace BK558:=kb BK558 hb;replace BK559:=kb BK559 hb;replace BK560:=kb BK560 hb;replace BK570:=kb BK570 hb;replace HB:=aM (below_step (by first|exact bb HB|exact bg HB GE558|exact bg HB GE559|exact bg HB GE560|exact bg HB GE570) hb);(try clear hb);have hnb157:=NB558_560.out;have hnc157:=NB560_558.out;have hnb158:=NB558_570.out;have hnc158:=NB570_558.out;have⟨a0,a1,b0,b1⟩:=q2f BK558;have⟨a0,a1,a2,a3,a4,a5,b0,b1,b2,b3,b4,b5⟩:=q6f BK559))
                 go_roundg k3
                 case measure=>have:=HK1.out;have:=HK2.out;have:=HK3.out;omega
                 case rel=>exact ⟨(0 + 1),(a0_0),(a0_1),(x560002_3),(x560003_3),(x560004_3),(x560005_3),(by first|rfl|(simp;done)|(simp [*];done)),H',⟨by have:=HK1.out;have:=HK2.out;have:=HK3.out;omega⟩,⟨by (with_reducible repeat (first|apply rA|apply rN|apply rD));exact Kd.R_mono (Kd.R_far (p:=⟨gb559,1,none⟩) (Kd.R_far (p:=⟨gb559,0,none⟩) (Kd.R_types HO_6.out BK559.out (by decide)) (fun _ hk=>hk.2) (.string a0_0)) (fun _ hk=>hk.2) (.string a0_1)) (fun _ hk=>trivial)⟩,⟨by (with_reducible repeat (first|apply rA|apply rN|apply rD));exact Kd.R_mono (Kd.R_far (p:=⟨gb559,1,none⟩) (Kd.R_far (p:=⟨gb559,0,none⟩) (Kd.R_mono HO_7.out (fun k_ hk=>(⟨hk,hk⟩:_ ∧ k_ ≠ gb559))) (fun _ hk=>hk.2) (.string a0_0)) (fun _ hk=>hk.2) (.string a0_1)) (fun _ hk=>hk.1)⟩,⟨bf BK558 NB558_559⟩,⟨by (with_reducible repeat (first|apply yN|apply yD|apply yA));refine blk_put (cs:=#[.string a0_0,.string x560001_3,.string x560002_3,.string x560003_3,.string x560004_3,.string x560005_3]) ?_ 1 _ rfl;(with_reducible repeat (first|apply yN|apply yD|apply yA));refine blk_put (cs:=#[.string x560000_3,.string x560001_3,.string x560002_3,.string x560003_3,.string x560004_3,.string x560005_3]) ?_ 0 _ rfl;(with_reducible repeat (first|apply yN|apply yD|apply yA));exact BK559.out⟩,⟨bf BK560 NB560_559⟩,⟨bf BK570 NB570_559⟩,⟨by first|exact bb HB|exact bg HB GE558|exact bg HB GE559|exact bg HB GE560|exact bg HB GE570⟩⟩
              ·rw [if_neg c130] at H
               by_cases c161:x14_3 = 1
               ·subst c161
                have H1:((spec_l01At.f x560002_3 x560003_3 0).bind fun t608=>(if t608 = t574 then ((spec_l01Shift.f x560002_3 x560003_3).bind fun bt609=>(spec_l06Middle.l2 k3 y600 y597 x8_1 t574 (1 + 1) a0_0 a0_1 x560000_3 x560001_3 bt609.1 bt609.2 x560004_3 x560005_3)) else (if t608 = 42 then ((spec_l01Shift.f x560002_3 x560003_3).bind fun bt611=>(spec_l06Middle.l2 k3 y600 y597 x8_1 t574 (1 + 1) a0_0 a0_1 x560000_3 x560001_3 bt611.1 bt611.2 x560004_3 x560005_3)) else (spec_l06Middle.l2 k3 y600 y597 x8_1 t574 (1 + 1) a0_0 a0_1 x560000_3 x560001_3 a0_0 a0_1 x560004_3 x560005_3)))) = some (r1,r2,r3):=by rw [if_pos rfl] at H;exact H
                clear H
                have H:=H1
                clear H1
                replace H:=Option.bind_eq_some_iff.mp H
                obtain ⟨t608,A1620,H⟩:=H
                replace H:(if t608 = t574 then ((spec_l01Shift.f x560002_3 x560003_3).bind fun bt609=>(spec_l06Middle.l2 k3 y600 y597 x8_1 t574 (1 + 1) a0_0 a0_1 x560000_3 x560001_3 bt609.1 bt609.2 x560004_3 x560005_3)) else (if t608 = 42 then ((spec_l01Shift.f x560002_3 x560003_3).bind fun bt611=>(spec_l06Middle.l2 k3 y600 y597 x8_1 t574 (1 + 1) a0_0 a0_1 x560000_3 x560001_3 bt611.1 bt611.2 x560004_3 x560005_3)) else (spec_l06Middle.l2 k3 y600 y597 x8_1 t574 (1 + 1) a0_0 a0_1 x560000_3 x560001_3 a0_0 a0_1 x560004_3 x560005_3))) = some (r1,r2,r3):=H;have A162:=aM A1620
                clear A1620
                by_cases c163:t608 = t574
                ·rw [if_pos c163] at H
                 have c163b0:(t608 == t574) = true:=beq_iff_eq.mpr c163
                 have c163b1:(t608 != t574) = false:=bne_eq_false_iff_eq.mpr c163
                 clear c163
                 replace H:=Option.bind_eq_some_iff.mp H
                 obtain ⟨⟨t609,t610⟩,A1640,H⟩:=H
                 replace H:(spec_l06Middle.l2 k3 y600 y597 x8_1 t574 (1 + 1) a0_0 a0_1 x560000_3 x560001_3 t609 t610 x560004_3 x560005_3) = some (r1,r2,r3):=H;have A164:=aM A1640
                 clear A1640
                 have H':=aM H
                 clear H
                 have hnb165:=NB559_558.out
                 have hnc165:=NB558_559.out
                 have hnb166:=NB559_560.out
                 have hnc166:=NB560_559.out
                 have hnb167:=NB559_570.out
                 have hnc167:=NB570_559.out
                 have⟨a0,a1,a2,a3,a4,a5,b0,b1,b2,b3,b4,b5⟩:=q6f BK559
                 go_wp2_with (first|((with_reducible refine gate_callee (f:=49) rfl ?_);refine goesL_ (some 97) rfl rfl Try.func49 (by kernel_rfl) rfl #[.agg #[.string x560002_3,.string x560003_3],.int .i64 0] rfl (by (try simp only [sM,sC,sN]);first|done|rfl) ?_;(with_reducible refine (spec_l01At.calls x560002_3 x560003_3 0 t608 _ A162.out).mono ?_);rintro e w169 ⟨rfl,hb⟩;refine ⟨_,rfl,?_⟩;replace HO_6:=ko HO_6 hb;replace HO_7:=ko HO_7 hb;replace BK558:=kb BK558 hb;replace BK559:=kb BK559 hb;replace BK560:=kb BK560 hb;replace BK570:=kb BK570 hb;replace HB:=aM (below_step (by first|exact bb HB|exact bg HB GE558|exact bg HB GE559|exact bg HB GE560|exact bg HB GE570) hb);(try clear hb);have⟨a0,a1,a2,a3,a4,a5,b0,b1,b2,b3,b4,b5⟩:=q6f BK559)|((with_reducible refine gate_callee (f:=48) rfl ?_);refine goesL_ (some 109) rfl rfl Try.func48 (by kernel_rfl) rfl #[.agg #[.string x560002_3,.string x560003_3]] rfl (by (try simp only [sM,sC,sN]);first|done|rfl) ?_;(with_reducible refine (spec_l01Shift.calls x560002_3 x560003_3 t609 t610 _ A164.out).mono ?_);rintro e w171 ⟨rfl,hb⟩;refine ⟨_,rfl,?_⟩;replace HO_6:=ko HO_6 hb;replace HO_7:=ko HO_7 hb;replace BK558:=kb BK558 hb;replace BK559:=kb BK559 hb;replace BK560:=kb BK560 hb;replace BK570:=kb BK570 hb;replace HB:=aM (below_step (by first|exact bb HB|exact bg HB GE558|exact bg HB GE559|exact bg HB GE560|exact bg HB GE570) hb);(try clear hb);have⟨a0,a1,a2,a3,a4,a5,b0,b1,b2,b3,b4,b5⟩:=q6f BK559))
                 go_roundg k3
                 case measure=>have:=HK1.out;have:=HK2.out;have:=HK3.out;omega
                 case rel=>exact ⟨(1 + 1),(x560000_3),(x560001_3),(t609),(t610),(x560004_3),(x560005_3),(by first|rfl|(simp;done)|(simp [*];done)),H',⟨by have:=HK1.out;have:=HK2.out;have:=HK3.out;omega⟩,⟨by (with_reducible repeat (first|apply rA|apply rN|apply rD));exact Kd.R_mono (Kd.R_far (p:=⟨gb559,3,none⟩) (Kd.R_far (p:=⟨gb559,2,none⟩) (Kd.R_types HO_6.out BK559.out (by decide)) (fun _ hk=>hk.2) (.string t609)) (fun _ hk=>hk.2) (.string t610)) (fun _ hk=>trivial)⟩,⟨by (with_reducible repeat (first|apply rA|apply rN|apply rD));exact Kd.R_mono (Kd.R_far (p:=⟨gb559,3,none⟩) (Kd.R_far (p:=⟨gb559,2,none⟩) (Kd.R_mono HO_7.out (fun k_ hk=>(⟨hk,hk⟩:_ ∧ k_ ≠ gb559))) (fun _ hk=>hk.2) (.string t609)) (fun _ hk=>hk.2) (.string t610)) (fun _ hk=>hk.1)⟩,⟨bf BK558 NB558_559⟩,⟨by (with_reducible repeat (first|apply yN|apply yD|apply yA));refine blk_put (cs:=#[.string x560000_3,.string x560001_3,.string t609,.string x560003_3,.string x560004_3,.string x560005_3]) ?_ 3 _ rfl;(with_reducible repeat (first|apply yN|apply yD|apply yA));refine blk_put (cs:=#[.string x560000_3,.string x560001_3,.string x560002_3,.string x560003_3,.string x560004_3,.string x560005_3]) ?_ 2 _ rfl;(with_reducible repeat (first|apply yN|apply yD|apply yA));exact BK559.out⟩,⟨bf BK560 NB560_559⟩,⟨bf BK570 NB570_559⟩,⟨by first|exact bb HB|exact bg HB GE558|exact bg HB GE559|exact bg HB GE560|exact bg HB GE570⟩⟩
                ·rw [if_neg c163] at H
                 have c163b0:(t608 == t574) = false:=beq_eq_false_iff_ne.mpr c163
                 have c163b1:(t608 != t574) = true:=bne_iff_ne.mpr c163
                 by_cases c173:t608 = 42
                 ·rw [if_pos c173] at H
                  have c173b0:(t608 == 42) = true:=beq_iff_eq.mpr c173
                  have c173b1:(t608 != 42) = false:=bne_eq_false_iff_eq.mpr c173
                  clear c173
                  replace H:=Option.bind_eq_some_iff.mp H
                  obtain ⟨⟨t611,t612⟩,A1740,H⟩:=H
                  replace H:(spec_l06Middle.l2 k3 y600 y597 x8_1 t574 (1 + 1) a0_0 a0_1 x560000_3 x560001_3 t611 t612 x560004_3 x560005_3) = some (r1,r2,r3):=H;have A174:=aM A1740
                  clear A1740
                  have H':=aM H
                  clear H
                  have hnb175:=NB559_558.out
                  have hnc175:=NB558_559.out
                  have hnb176:=NB559_560.out
                  have hnc176:=NB560_559.out
                  have hnb177:=NB559_570.out
                  have hnc177:=NB570_559.out
                  have⟨a0,a1,a2,a3,a4,a5,b0,b1,b2,b3,b4,b5⟩:=q6f BK559
                  go_wp2_with (first|((with_reducible refine gate_callee (f:=49) rfl ?_);refine goesL_ (some 97) rfl rfl Try.func49 (by kernel_rfl) rfl #[.agg #[.string x560002_3,.string x560003_3],.int .i64 0] rfl (by (try simp only [sM,sC,sN]);first|done|rfl) ?_;(with_reducible refine (spec_l01At.calls x560002_3 x560003_3 0 t608 _ A162.out).mono ?_);rintro e w179 ⟨rfl,hb⟩;refine ⟨_,rfl,?_⟩;replace HO_6:=ko HO_6 hb;replace HO_7:=ko HO_7 hb;replace BK558:=kb BK558 hb;replace BK559:=kb BK559 hb;replace BK560:=kb BK560 hb;replace BK570:=kb BK570 hb;replace HB:=aM (below_step (by first|exact bb HB|exact bg HB GE558|exact bg HB GE559|exact bg HB GE560|exact bg HB GE570) hb);(try clear hb);have⟨a0,a1,a2,a3,a4,a5,b0,b1,b2,b3,b4,b5⟩:=q6f BK559)|((with_reducible refine gate_callee (f:=48) rfl ?_);refine goesL_ (some 109) rfl rfl Try.func48 (by kernel_rfl) rfl #[.agg #[.string x560002_3,.string x560003_3]] rfl (by (try simp only [sM,sC,sN]);first|done|rfl) ?_;(with_reducible refine (spec_l01Shift.calls x560002_3 x560003_3 t611 t612 _ A174.out).mono ?_);rintro e w181 ⟨rfl,hb⟩;refine ⟨_,rfl,?_⟩;replace HO_6:=ko HO_6 hb;replace HO_7:=ko HO_7 hb;replace BK558:=kb BK558 hb;replace BK559:=kb BK559 hb;replace BK560:=kb BK560 hb;replace BK570:=kb BK570 hb;replace HB:=aM (below_step (by first|exact bb HB|exact bg HB GE558|exact bg HB GE559|exact bg HB GE560|exact bg HB GE570) hb);(try clear hb);have⟨a0,a1,a2,a3,a4,a5,b0,b1,b2,b3,b4,b5⟩:=q6f BK559))
                  go_roundg k3
                  case measure=>have:=HK1.out;have:=HK2.out;have:=HK3.out;omega
                  case rel=>exact ⟨(1 + 1),(x560000_3),(x560001_3),(t611),(t612),(x560004_3),(x560005_3),(by first|rfl|(simp;done)|(simp [*];done)),H',⟨by have:=HK1.out;have:=HK2.out;have:=HK3.out;omega⟩,⟨by (with_reducible repeat (first|apply rA|apply rN|apply rD));exact Kd.R_mono (Kd.R_far (p:=⟨gb559,3,none⟩) (Kd.R_far (p:=⟨gb559,2,none⟩) (Kd.R_types HO_6.out BK559.out (by decide)) (fun _ hk=>hk.2) (.string t611)) (fun _ hk=>hk.2) (.string t612)) (fun _ hk=>trivial)⟩,⟨by (with_reducible repeat (first|apply rA|apply rN|apply rD));exact Kd.R_mono (Kd.R_far (p:=⟨gb559,3,none⟩) (Kd.R_far (p:=⟨gb559,2,none⟩) (Kd.R_mono HO_7.out (fun k_ hk=>(⟨hk,hk⟩:_ ∧ k_ ≠ gb559))) (fun _ hk=>hk.2) (.string t611)) (fun _ hk=>hk.2) (.string t612)) (fun _ hk=>hk.1)⟩,⟨bf BK558 NB558_559⟩,⟨by (with_reducible repeat (first|apply yN|apply yD|apply yA));refine blk_put (cs:=#[.string x560000_3,.string x560001_3,.string t611,.string x560003_3,.string x560004_3,.string x560005_3]) ?_ 3 _ rfl;(with_reducible repeat (first|apply yN|apply yD|apply yA));refine blk_put (cs:=#[.string x560000_3,.string x560001_3,.string x560002_3,.string x560003_3,.string x560004_3,.string x560005_3]) ?_ 2 _ rfl;(with_reducible repeat (first|apply yN|apply yD|apply yA));exact BK559.out⟩,⟨bf BK560 NB560_559⟩,⟨bf BK570 NB570_559⟩,⟨by first|exact bb HB|exact bg HB GE558|exact bg HB GE559|exact bg HB GE560|exact bg HB GE570⟩⟩
                 ·rw [if_neg c173] at H
                  have c173b0:(t608 == 42) = false:=beq_eq_false_iff_ne.mpr c173
                  have c173b1:(t608 != 42) = true:=bne_iff_ne.mpr c173
                  have H':=aM H
                  clear H
                  have hnb183:=NB559_558.out
                  have hnc183:=NB558_559.out
                  have hnb184:=NB559_560.out
                  have hnc184:=NB560_559.out
                  have hnb185:=NB559_570.out
                  have hnc185:=NB570_559.out
                  have⟨a0,a1,a2,a3,a4,a5,b0,b1,b2,b3,b4,b5⟩:=q6f BK559
                  go_wp2_with (first|((with_reducible refine gate_callee (f:=49) rfl ?_);refine goesL_ (some 97) rfl rfl Try.func49 (by kernel_rfl) rfl #[.agg #[.string x560002_3,.string x560003_3],.int .i64 0] rfl (by (try simp only [sM,sC,sN]);first|done|rfl) ?_;(with_reducible refine (spec_l01At.calls x560002_3 x560003_3 0 t608 _ A162.out).mono ?_);rintro e w187 ⟨rfl,hb⟩;refine ⟨_,rfl,?_⟩;replace HO_6:=ko HO_6 hb;replace HO_7:=ko HO_7 hb;replace BK558:=kb BK558 hb;replace BK559:=kb BK559 hb;replace BK560:=kb BK560 hb;replace BK570:=kb BK570 hb;replace HB:=aM (below_step (by first|exact bb HB|exact bg HB GE558|exact bg HB GE559|exact bg HB GE560|exact bg HB GE570) hb);(try clear hb);have hnb188:=NB558_560.out;have hnc188:=NB560_558.out;have hnb189:=NB558_570.out;have hnc189:=NB570_558.out;have⟨a0,a1,b0,b1⟩:=q2f BK558;have⟨a0,a1,a2,a3,a4,a5,b0,b1,b2,b3,b4,b5⟩:=q6f BK559))
                  go_roundg k3
                  case measure=>have:=HK1.out;have:=HK2.out;have:=HK3.out;omega
                  case rel=>exact ⟨(1 + 1),(x560000_3),(x560001_3),(a0_0),(a0_1),(x560004_3),(x560005_3),(by first|rfl|(simp;done)|(simp [*];done)),H',⟨by have:=HK1.out;have:=HK2.out;have:=HK3.out;omega⟩,⟨by (with_reducible repeat (first|apply rA|apply rN|apply rD));exact Kd.R_mono (Kd.R_far (p:=⟨gb559,3,none⟩) (Kd.R_far (p:=⟨gb559,2,none⟩) (Kd.R_types HO_6.out BK559.out (by decide)) (fun _ hk=>hk.2) (.string a0_0)) (fun _ hk=>hk.2) (.string a0_1)) (fun _ hk=>trivial)⟩,⟨by (with_reducible repeat (first|apply rA|apply rN|apply rD));exact Kd.R_mono (Kd.R_far (p:=⟨gb559,3,none⟩) (Kd.R_far (p:=⟨gb559,2,none⟩) (Kd.R_mono HO_7.out (fun k_ hk=>(⟨hk,hk⟩:_ ∧ k_ ≠ gb559))) (fun _ hk=>hk.2) (.string a0_0)) (fun _ hk=>hk.2) (.string a0_1)) (fun _ hk=>hk.1)⟩,⟨bf BK558 NB558_559⟩,⟨by (with_reducible repeat (first|apply yN|apply yD|apply yA));refine blk_put (cs:=#[.string x560000_3,.string x560001_3,.string a0_0,.string x560003_3,.string x560004_3,.string x560005_3]) ?_ 3 _ rfl;(with_reducible repeat (first|apply yN|apply yD|apply yA));refine blk_put (cs:=#[.string x560000_3,.string x560001_3,.string x560002_3,.string x560003_3,.string x560004_3,.string x560005_3]) ?_ 2 _ rfl;(with_reducible repeat (first|apply yN|apply yD|apply yA));exact BK559.out⟩,⟨bf BK560 NB560_559⟩,⟨bf BK570 NB570_559⟩,⟨by first|exact bb HB|exact bg HB GE558|exact bg HB GE559|exact bg HB GE560|exact bg HB GE570⟩⟩
               ·rw [if_neg c161] at H
                by_cases c192:x14_3 = 2
                ·subst c192
                 have H1:((spec_l01At.f x560004_3 x560005_3 0).bind fun t613=>(if t613 = t574 then ((spec_l01Shift.f x560004_3 x560005_3).bind fun bt614=>(spec_l06Middle.l2 k3 y600 y597 x8_1 t574 (2 + 1) a0_0 a0_1 x560000_3 x560001_3 x560002_3 x560003_3 bt614.1 bt614.2)) else (if t613 = 42 then ((spec_l01Shift.f x560004_3 x560005_3).bind fun bt616=>(spec_l06Middle.l2 k3 y600 y597 x8_1 t574 (2 + 1) a0_0 a0_1 x560000_3 x560001_3 x560002_3 x560003_3 bt616.1 bt616.2)) else (spec_l06Middle.l2 k3 y600 y597 x8_1 t574 (2 + 1) a0_0 a0_1 x560000_3 x560001_3 x560002_3 x560003_3 a0_0 a0_1)))) = some (r1,r2,r3):=by rw [if_pos rfl] at H;exact H
                 clear H
                 have H:=H1
                 clear H1
                 replace H:=Option.bind_eq_some_iff.mp H
                 obtain ⟨t613,A1930,H⟩:=H
                 replace H:(if t613 = t574 then ((spec_l01Shift.f x560004_3 x560005_3).bind fun bt614=>(spec_l06Middle.l2 k3 y600 y597 x8_1 t574 (2 + 1) a0_0 a0_1 x560000_3 x560001_3 x560002_3 x560003_3 bt614.1 bt614.2)) else (if t613 = 42 then ((spec_l01Shift.f x560004_3 x560005_3).bind fun bt616=>(spec_l06Middle.l2 k3 y600 y597 x8_1 t574 (2 + 1) a0_0 a0_1 x560000_3 x560001_3 x560002_3 x560003_3 bt616.1 bt616.2)) else (spec_l06Middle.l2 k3 y600 y597 x8_1 t574 (2 + 1) a0_0 a0_1 x560000_3 x560001_3 x560002_3 x560003_3 a0_0 a0_1))) = some (r1,r2,r3):=H;have A193:=aM A1930
                 clear A1930
                 by_cases c194:t613 = t574
                 ·rw [if_pos c194] at H
                  have c194b0:(t613 == t574) = true:=beq_iff_eq.mpr c194
                  have c194b1:(t613 != t574) = false:=bne_eq_false_iff_eq.mpr c194
                  clear c194
                  replace H:=Option.bind_eq_some_iff.mp H
                  obtain ⟨⟨t614,t615⟩,A1950,H⟩:=H
                  replace H:(spec_l06Middle.l2 k3 y600 y597 x8_1 t574 (2 + 1) a0_0 a0_1 x560000_3 x560001_3 x560002_3 x560003_3 t614 t615) = some (r1,r2,r3):=H;have A195:=aM A1950
                  clear A1950
                  have H':=aM H
                  clear H
                  have hnb196:=NB559_558.out
                  have hnc196:=NB558_559.out
                  have hnb197:=NB559_560.out
                  have hnc197:=NB560_559.out
                  have hnb198:=NB559_570.out
                  have hnc198:=NB570_559.out
                  have⟨a0,a1,a2,a3,a4,a5,b0,b1,b2,b3,b4,b5⟩:=q6f BK559
                  go_wp2_with (first|((with_reducible refine gate_callee (f:=49) rfl ?_);refine goesL_ (some 97) rfl rfl Try.func49 (by kernel_rfl) rfl #[.agg #[.string x560004_3,.string x560005_3],.int .i64 0] rfl (by (try simp only [sM,sC,sN]);first|done|rfl) ?_;(with_reducible refine (spec_l01At.calls x560004_3 x560005_3 0 t613 _ A193.out).mono ?_);rintro e w200 ⟨rfl,hb⟩;refine ⟨_,rfl,?_⟩;replace HO_6:=ko HO_6 hb;replace HO_7:=ko HO_7 hb;replace BK558:=kb BK558 hb;replace BK559:=kb BK559 hb;replace BK560:=kb BK560 hb;replace BK570:=kb BK570 hb;replace HB:=aM (below_step (by first|exact bb HB|exact bg HB GE558|exact bg HB GE559|exact bg HB GE560|exact bg HB GE570) hb);(try clear hb);have⟨a0,a1,a2,a3,a4,a5,b0,b1,b2,b3,b4,b5⟩:=q6f BK559)|((with_reducible refine gate_callee (f:=48) rfl ?_);refine goesL_ (some 109) rfl rfl Try.func48 (by kernel_rfl) rfl #[.agg #[.string x560004_3,.string x560005_3]] rfl (by (try simp only [sM,sC,sN]);first|done|rfl) ?_;(with_reducible refine (spec_l01Shift.calls x560004_3 x560005_3 t614 t615 _ A195.out).mono ?_);rintro e w202 ⟨rfl,hb⟩;refine ⟨_,rfl,?_⟩;replace HO_6:=ko HO_6 hb;replace HO_7:=ko HO_7 hb;replace BK558:=kb BK558 hb;replace BK559:=kb BK559 hb;replace BK560:=kb BK560 hb;replace BK570:=kb BK570 hb;replace HB:=aM (below_step (by first|exact bb HB|exact bg HB GE558|exact bg HB GE559|exact bg HB GE560|exact bg HB GE570) hb);(try clear hb);have⟨a0,a1,a2,a3,a4,a5,b0,b1,b2,b3,b4,b5⟩:=q6f BK559))
                  go_roundg k3
                  case measure=>have:=HK1.out;have:=HK2.out;have:=HK3.out;omega
                  case rel=>exact ⟨(2 + 1),(x560000_3),(x560001_3),(x560002_3),(x560003_3),(t614),(t615),(by first|rfl|(simp;done)|(simp [*];done)),H',⟨by have:=HK1.out;have:=HK2.out;have:=HK3.out;omega⟩,⟨by (with_reducible repeat (first|apply rA|apply rN|apply rD));exact Kd.R_mono (Kd.R_far (p:=⟨gb559,5,none⟩) (Kd.R_far (p:=⟨gb559,4,none⟩) (Kd.R_types HO_6.out BK559.out (by decide)) (fun _ hk=>hk.2) (.string t614)) (fun _ hk=>hk.2) (.string t615)) (fun _ hk=>trivial)⟩,⟨by (with_reducible repeat (first|apply rA|apply rN|apply rD));exact Kd.R_mono (Kd.R_far (p:=⟨gb559,5,none⟩) (Kd.R_far (p:=⟨gb559,4,none⟩) (Kd.R_mono HO_7.out (fun k_ hk=>(⟨hk,hk⟩:_ ∧ k_ ≠ gb559))) (fun _ hk=>hk.2) (.string t614)) (fun _ hk=>hk.2) (.string t615)) (fun _ hk=>hk.1)⟩,⟨bf BK558 NB558_559⟩,⟨by (with_reducible repeat (first|apply yN|apply yD|apply yA));refine blk_put (cs:=#[.string x560000_3,.string x560001_3,.string x560002_3,.string x560003_3,.string t614,.string x560005_3]) ?_ 5 _ rfl;(with_reducible repeat (first|apply yN|apply yD|apply yA));refine blk_put (cs:=#[.string x560000_3,.string x560001_3,.string x560002_3,.string x560003_3,.string x560004_3,.string x560005_3]) ?_ 4 _ rfl;(with_reducible repeat (first|apply yN|apply yD|apply yA));exact BK559.out⟩,⟨bf BK560 NB560_559⟩,⟨bf BK570 NB570_559⟩,⟨by first|exact bb HB|exact bg HB GE558|exact bg HB GE559|exact bg HB GE560|exact bg HB GE570⟩⟩
                 ·rw [if_neg c194] at H
                  have c194b0:(t613 == t574) = false:=beq_eq_false_iff_ne.mpr c194
                  have c194b1:(t613 != t574) = true:=bne_iff_ne.mpr c194
                  by_cases c204:t613 = 42
                  ·rw [if_pos c204] at H
                   have c204b0:(t613 == 42) = true:=beq_iff_eq.mpr c204
                   have c204b1:(t613 != 42) = false:=bne_eq_false_iff_eq.mpr c204
                   clear c204
                   replace H:=Option.bind_eq_some_iff.mp H
                   obtain ⟨⟨t616,t617⟩,A2050,H⟩:=H
                   replace H:(spec_l06Middle.l2 k3 y600 y597 x8_1 t574 (2 + 1) a0_0 a0_1 x560000_3 x560001_3 x560002_3 x560003_3 t616 t617) = some (r1,r2,r3):=H;have A205:=aM A2050
                   clear A2050
                   have H':=aM H
                   clear H
                   have hnb206:=NB559_558.out
                   have hnc206:=NB558_559.out
                   have hnb207:=NB559_560.out
                   have hnc207:=NB560_559.out
                   have hnb208:=NB559_570.out
                   have hnc208:=NB570_559.out
                   have⟨a0,a1,a2,a3,a4,a5,b0,b1,b2,b3,b4,b5⟩:=q6f BK559
                   go_wp2_with (first|((with_reducible refine gate_callee (f:=49) rfl ?_);refine goesL_ (some 97) rfl rfl Try.func49 (by kernel_rfl) rfl #[.agg #[.string x560004_3,.string x560005_3],.int .i64 0] rfl (by (try simp only [sM,sC,sN]);first|done|rfl) ?_;(with_reducible refine (spec_l01At.calls x560004_3 x560005_3 0 t613 _ A193.out).mono ?_);rintro e w210 ⟨rfl,hb⟩;refine ⟨_,rfl,?_⟩;replace HO_6:=ko HO_6 hb;replace HO_7:=ko HO_7 hb;replace BK558:=kb BK558 hb;replace BK559:=kb BK559 hb;replace BK560:=kb BK560 hb;replace BK570:=kb BK570 hb;replace HB:=aM (below_step (by first|exact bb HB|exact bg HB GE558|exact bg HB GE559|exact bg HB GE560|exact bg HB GE570) hb);(try clear hb);have⟨a0,a1,a2,a3,a4,a5,b0,b1,b2,b3,b4,b5⟩:=q6f BK559)|((with_reducible refine gate_callee (f:=48) rfl ?_);refine goesL_ (some 109) rfl rfl Try.func48 (by kernel_rfl) rfl #[.agg #[.string x560004_3,.string x560005_3]] rfl (by (try simp only [sM,sC,sN]);first|done|rfl) ?_;(with_reducible refine (spec_l01Shift.calls x560004_3 x560005_3 t616 t617 _ A205.out).mono ?_);rintro e w212 ⟨rfl,hb⟩;refine ⟨_,rfl,?_⟩;replace HO_6:=ko HO_6 hb;replace HO_7:=ko HO_7 hb;replace BK558:=kb BK558 hb;replace BK559:=kb BK559 hb;replace BK560:=kb BK560 hb;replace BK570:=kb BK570 hb;replace HB:=aM (below_step (by first|exact bb HB|exact bg HB GE558|exact bg HB GE559|exact bg HB GE560|exact bg HB GE570) hb);(try clear hb);have⟨a0,a1,a2,a3,a4,a5,b0,b1,b2,b3,b4,b5⟩:=q6f BK559))
                   go_roundg k3
                   case measure=>have:=HK1.out;have:=HK2.out;have:=HK3.out;omega
                   case rel=>exact ⟨(2 + 1),(x560000_3),(x560001_3),(x560002_3),(x560003_3),(t616),(t617),(by first|rfl|(simp;done)|(simp [*];done)),H',⟨by have:=HK1.out;have:=HK2.out;have:=HK3.out;omega⟩,⟨by (with_reducible repeat (first|apply rA|apply rN|apply rD));exact Kd.R_mono (Kd.R_far (p:=⟨gb559,5,none⟩) (Kd.R_far (p:=⟨gb559,4,none⟩) (Kd.R_types HO_6.out BK559.out (by decide)) (fun _ hk=>hk.2) (.string t616)) (fun _ hk=>hk.2) (.string t617)) (fun _ hk=>trivial)⟩,⟨by (with_reducible repeat (first|apply rA|apply rN|apply rD));exact Kd.R_mono (Kd.R_far (p:=⟨gb559,5,none⟩) (Kd.R_far (p:=⟨gb559,4,none⟩) (Kd.R_mono HO_7.out (fun k_ hk=>(⟨hk,hk⟩:_ ∧ k_ ≠ gb559))) (fun _ hk=>hk.2) (.string t616)) (fun _ hk=>hk.2) (.string t617)) (fun _ hk=>hk.1)⟩,⟨bf BK558 NB558_559⟩,⟨by (with_reducible repeat (first|apply yN|apply yD|apply yA));refine blk_put (cs:=#[.string x560000_3,.string x560001_3,.string x560002_3,.string x560003_3,.string t616,.string x560005_3]) ?_ 5 _ rfl;(with_reducible repeat (first|apply yN|apply yD|apply yA));refine blk_put (cs:=#[.string x560000_3,.string x560001_3,.string x560002_3,.string x560003_3,.string x560004_3,.string x560005_3]) ?_ 4 _ rfl;(with_reducible repeat (first|apply yN|apply yD|apply yA));exact BK559.out⟩,⟨bf BK560 NB560_559⟩,⟨bf BK570 NB570_559⟩,⟨by first|exact bb HB|exact bg HB GE558|exact bg HB GE559|exact bg HB GE560|exact bg HB GE570⟩⟩
                  ·rw [if_neg c204] at H
                   have c204b0:(t613 == 42) = false:=beq_eq_false_iff_ne.mpr c204
                   have c204b1:(t613 != 42) = true:=bne_iff_ne.mpr c204
                   have H':=aM H
                   clear H
                   have hnb214:=NB559_558.out
                   have hnc214:=NB558_559.out
                   have hnb215:=NB559_560.out
                   have hnc215:=NB560_559.out
                   have hnb216:=NB559_570.out
                   have hnc216:=NB570_559.out
                   have⟨a0,a1,a2,a3,a4,a5,b0,b1,b2,b3,b4,b5⟩:=q6f BK559
                   go_wp2_with (first|((with_reducible refine gate_callee (f:=49) rfl ?_);refine goesL_ (some 97) rfl rfl Try.func49 (by kernel_rfl) rfl #[.agg #[.string x560004_3,.string x560005_3],.int .i64 0] rfl (by (try simp only [sM,sC,sN]);first|done|rfl) ?_;(with_reducible refine (spec_l01At.calls x560004_3 x560005_3 0 t613 _ A193.out).mono ?_);rintro e w218 ⟨rfl,hb⟩;refine ⟨_,rfl,?_⟩;replace HO_6:=ko HO_6 hb;replace HO_7:=ko HO_7 hb;replace BK558:=kb BK558 hb;replace BK559:=kb BK559 hb;replace BK560:=kb BK560 hb;replace BK570:=kb BK570 hb;replace HB:=aM (below_step (by first|exact bb HB|exact bg HB GE558|exact bg HB GE559|exact bg HB GE560|exact bg HB GE570) hb);(try clear hb);have hnb219:=NB558_560.out;have hnc219:=NB560_558.out;have hnb220:=NB558_570.out;have hnc220:=NB570_558.out;have⟨a0,a1,b0,b1⟩:=q2f BK558;have⟨a0,a1,a2,a3,a4,a5,b0,b1,b2,b3,b4,b5⟩:=q6f BK559))
                   go_roundg k3
                   case measure=>have:=HK1.out;have:=HK2.out;have:=HK3.out;omega
                   case rel=>exact ⟨(2 + 1),(x560000_3),(x560001_3),(x560002_3),(x560003_3),(a0_0),(a0_1),(by first|rfl|(simp;done)|(simp [*];done)),H',⟨by have:=HK1.out;have:=HK2.out;have:=HK3.out;omega⟩,⟨by (with_reducible repeat (first|apply rA|apply rN|apply rD));exact Kd.R_mono (Kd.R_far (p:=⟨gb559,5,none⟩) (Kd.R_far (p:=⟨gb559,4,none⟩) (Kd.R_types HO_6.out BK559.out (by decide)) (fun _ hk=>hk.2) (.string a0_0)) (fun _ hk=>hk.2) (.string a0_1)) (fun _ hk=>trivial)⟩,⟨by (with_reducible repeat (first|apply rA|apply rN|apply rD));exact Kd.R_mono (Kd.R_far (p:=⟨gb559,5,none⟩) (Kd.R_far (p:=⟨gb559,4,none⟩) (Kd.R_mono HO_7.out (fun k_ hk=>(⟨hk,hk⟩:_ ∧ k_ ≠ gb559))) (fun _ hk=>hk.2) (.string a0_0)) (fun _ hk=>hk.2) (.string a0_1)) (fun _ hk=>hk.1)⟩,⟨bf BK558 NB558_559⟩,⟨by (with_reducible repeat (first|apply yN|apply yD|apply yA));refine blk_put (cs:=#[.string x560000_3,.string x560001_3,.string x560002_3,.string x560003_3,.string a0_0,.string x560005_3]) ?_ 5 _ rfl;(with_reducible repeat (first|apply yN|apply yD|apply yA));refine blk_put (cs:=#[.string x560000_3,.string x560001_3,.string x560002_3,.string x560003_3,.string x560004_3,.string x560005_3]) ?_ 4 _ rfl;(with_reducible repeat (first|apply yN|apply yD|apply yA));exact BK559.out⟩,⟨bf BK560 NB560_559⟩,⟨bf BK570 NB570_559⟩,⟨by first|exact bb HB|exact bg HB GE558|exact bg HB GE559|exact bg HB GE560|exact bg HB GE570⟩⟩
                ·rw [if_neg c192] at H
                 exact absurd H (by simp)
             ·rw [if_neg c129] at H
              have c129b0:decide (x14_3 < 3) = false:=decide_eq_false c129
              clear c129
              have H':=aM H
              clear H
              go_wp2
              go_roundg k3
              case measure=>have:=HK1.out;have:=HK2.out;have:=HK3.out;omega
              case rel=>exact ⟨(y600),(y597),(wrap64 (x8_1 + 1)),(x560000_3),(x560001_3),(x560002_3),(x560003_3),(x560004_3),(x560005_3),(x561000_2),(x561001_2),(by first|rfl|(simp;done)|(simp [*];done)),H',⟨by have:=HK1.out;have:=HK2.out;have:=HK3.out;omega⟩,⟨rk HO_6⟩,⟨rk HO_7⟩,⟨bk BK558⟩,⟨bk BK559⟩,⟨bk BK560⟩,⟨by first|exact bb HB|exact bg HB GE558|exact bg HB GE559|exact bg HB GE560|exact bg HB GE570⟩⟩
          ·rw [if_neg c121] at H
           exact absurd H (by simp)
         ·rw [if_neg c120] at H
          exact absurd H (by simp)
   ·rw [if_neg c10] at H
    have c10b0:decide (x8_1 ≤ 600) = false:=decide_eq_false c10
    clear c10
    simp only [Option.some.injEq,Prod.mk.injEq] at H
    obtain ⟨rfl,rfl,rfl⟩:=H
    have hnb223:=NB560_558.out
    have hnc223:=NB558_560.out
    have hnb224:=NB560_559.out
    have hnc224:=NB559_560.out
    have⟨a0,a1,b0,b1⟩:=q2f BK560
    go_wp2
    refine bodyPost_ret (results_ct rfl _ _ gb560 25 #[.string ⟨#[]⟩,.string ⟨#[]⟩] (0,0) _ rfl (by (with_reducible repeat (first|apply yN|apply yD|apply yA));refine blk_put (cs:=#[.string ⟨#[]⟩,.string x561001_1]) ?_ 1 _ rfl;(with_reducible repeat (first|apply yN|apply yD|apply yA));refine blk_put (cs:=#[.string x561000_1,.string x561001_1]) ?_ 0 _ rfl;(with_reducible repeat (first|apply yN|apply yD|apply yA));exact BK560.out) Try.underlying25 rfl (by kernel_rfl)) rfl ?_
    exact ⟨rfl,by first|exact bb HB|exact bg HB GE558|exact bg HB GE559|exact bg HB GE560⟩
end Go.Proofs.Ytmhpbilkocnlnaa.Q
end
section
namespace Go.Proofs.Ytmhpbilkocnlnaa.Q
open Go.RowKit Go.Proofs.YtmhpbilkocnlnaaW.PrintWords Go.Proofs.YtmhpbilkocnlnaaW.PrintLast Go.Proofs.YtmhpbilkocnlnaaW.Ext
set_option linter.unusedVariables false
set_option linter.unusedSimpArgs false
theorem vote_eq {x0 x1 x2 : Int} (h0 : x0 = 48 ∨ x0 = 49 ∨ x0 = 42) (h1 : x1 = 48 ∨ x1 = 49 ∨ x1 = 42) (h2 : x2 = 48 ∨ x2 = 49 ∨ x2 = 42)
    (n0 : ¬ (x0 = 42 ∧ x1 = 42)) (n1 : ¬ (x0 = 42 ∧ x2 = 42)) (n2 : ¬ (x1 = 42 ∧ x2 = 42)) :
    voteEnd (voteAt x0 x1 x2 3) = lettersEnd (voteAt x0 x1 x2 3) ∧
    (((voteEnd (voteAt x0 x1 x2 3)).2 = -1 ∧ ((voteEnd (voteAt x0 x1 x2 3)).1 = 48 ∨ (voteEnd (voteAt x0 x1 x2 3)).1 = 49)) ∨ (voteEnd (voteAt x0 x1 x2 3)).2 = 0 ∨ (voteEnd (voteAt x0 x1 x2 3)).2 = 1 ∨ (voteEnd (voteAt x0 x1 x2 3)).2 = 2) := by
  rcases h0 with rfl | rfl | rfl <;> rcases h1 with rfl | rfl | rfl <;> rcases h2 with rfl | rfl | rfl <;>
    first
    | exact absurd ⟨rfl, rfl⟩ n0
    | exact absurd ⟨rfl, rfl⟩ n1
    | exact absurd ⟨rfl, rfl⟩ n2
    | decide
def hd (s : ByteArray × ByteArray) : Int := atV s.1 s.2 0
theorem hd_val {s : ByteArray × ByteArray} (h : Val s) : spec_l01At.f s.1 s.2 0 = some (hd s) ∧ impl_Sequence_at.f s.1 s.2 0 = some (hd s) ∧ (hd s = 48 ∨ hd s = 49 ∨ hd s = 42) := by
  have := h.le
  exact ⟨at_val s.1 s.2 0 h.one (by omega) (by omega), at_val' s.1 s.2 0 h.one (by omega) (by omega), at_letter h.a h.b h.one 0⟩
def mvP (v : ByteArray × ByteArray) (c : Int) (s : ByteArray × ByteArray) : ByteArray × ByteArray := if hd s ≠ c ∧ hd s ≠ 42 then v else sh s
theorem mvOne_val {v s : ByteArray × ByteArray} (h : Val s) (c : Int) : mvOne v.1 v.2 c s.1 s.2 = some (mvP v c s) := by
  unfold mvOne mvP
  rw [(hd_val h).2.1, Option.bind_some]
  split
  · rfl
  · exact shift_val' (shift_eq s.1 s.2 h.one h.le)
theorem mv_val {v s : ByteArray × ByteArray} (hv : Val v) (h : Val s) (c : Int) : Val (mvP v c s) := by
  unfold mvP
  split
  · exact hv
  · exact val_sh h
theorem mv_pt {v s : ByteArray × ByteArray} (hv : Pt v v) (h : Pt v s) (c : Int) : Pt v (mvP v c s) := by
  unfold mvP
  split
  · exact hv
  · exact h.sh'
structure Tri where
  q0 : ByteArray × ByteArray
  q1 : ByteArray × ByteArray
  q2 : ByteArray × ByteArray
deriving DecidableEq
def Tri.p (q : Tri) : P6 := ⟨q.q0.1, q.q0.2, q.q1.1, q.q1.2, q.q2.1, q.q2.2⟩
def Tri.mv (v : ByteArray × ByteArray) (c : Int) (q : Tri) : Tri := ⟨mvP v c q.q0, mvP v c q.q1, mvP v c q.q2⟩
structure Tri.Ok (v : ByteArray × ByteArray) (q : Tri) : Prop where
  v0 : Val q.q0
  v1 : Val q.q1
  v2 : Val q.q2
  p0 : Pt v q.q0
  p1 : Pt v q.q1
  p2 : Pt v q.q2
theorem Tri.Ok.mv {v : ByteArray × ByteArray} {q : Tri} (hv : Val v) (hp : Pt v v) (h : q.Ok v) (c : Int) : (q.mv v c).Ok v :=
  ⟨mv_val hv h.v0 c, mv_val hv h.v1 c, mv_val hv h.v2 c, mv_pt hp h.p0 c, mv_pt hp h.p1 c, mv_pt hp h.p2 c⟩
def Tri.vote (q : Tri) : Int × Int := voteEnd (voteAt (hd q.q0) (hd q.q1) (hd q.q2) 3)
theorem moved_val {v : ByteArray × ByteArray} {q : Tri} (h : q.Ok v) (c : Int) : impl_Sequence_moved.f v.1 v.2 q.q0.1 q.q0.2 q.q1.1 q.q1.2 q.q2.1 q.q2.2 c = some ((q.mv v c).q0.1, (q.mv v c).q0.2, (q.mv v c).q1.1, (q.mv v c).q1.2, (q.mv v c).q2.1, (q.mv v c).q2.2) := by
  unfold impl_Sequence_moved.f
  rw [mvOne_val h.v0, Option.bind_some, mvOne_val h.v1, Option.bind_some, mvOne_val h.v2, Option.bind_some]
  rfl
theorem vote_val {v : ByteArray × ByteArray} {q : Tri} (h : q.Ok v) : impl_three_vote.f q.q0.1 q.q0.2 q.q1.1 q.q1.2 q.q2.1 q.q2.2 = some q.vote := by
  unfold impl_three_vote.f
  rw [(hd_val h.v0).2.1, Option.bind_some, (hd_val h.v1).2.1, Option.bind_some, (hd_val h.v2).2.1, Option.bind_some]
  rfl
theorem letters_val {v : ByteArray × ByteArray} {q : Tri} (h : q.Ok v) (hv : v.1.size = 0) (hv2 : bt v.2 ((v.2.size - 1 : Nat) : Int) = 42) (d0 : q.q0 ≠ q.q1) (d1 : q.q0 ≠ q.q2) (d2 : q.q1 ≠ q.q2) :
    spec_l06Letters.f q.q0.1 q.q0.2 q.q1.1 q.q1.2 q.q2.1 q.q2.2 = some q.vote ∧ ((q.vote.2 = -1 ∧ (q.vote.1 = 48 ∨ q.vote.1 = 49)) ∨ q.vote.2 = 0 ∨ q.vote.2 = 1 ∨ q.vote.2 = 2) := by
  have one : ∀ {s t : ByteArray × ByteArray}, Val s → Val t → Pt v s → Pt v t → s ≠ t → ¬ (hd s = 42 ∧ hd t = 42) := fun {s t} hs ht ps pt hne ⟨e1, e2⟩ =>
    hne (star_one hs ht (ps 0 e1) (pt 0 e2) e1 e2 hv hv2)
  have e := vote_eq (hd_val h.v0).2.2 (hd_val h.v1).2.2 (hd_val h.v2).2.2 (one h.v0 h.v1 h.p0 h.p1 d0) (one h.v0 h.v2 h.p0 h.p2 d1) (one h.v1 h.v2 h.p1 h.p2 d2)
  refine ⟨?_, e.2⟩
  unfold spec_l06Letters.f
  rw [(hd_val h.v0).1, Option.bind_some, (hd_val h.v1).1, Option.bind_some, (hd_val h.v2).1, Option.bind_some, ← e.1]
  rfl
theorem eqP (s t : ByteArray × ByteArray) : (s.1.toList == t.1.toList && (s.2.toList == t.2.toList)) = true ↔ s = t := by
  rw [Bool.and_eq_true, beq_iff_eq, beq_iff_eq]
  constructor
  · rintro ⟨h1, h2⟩
    exact Prod.ext (bytes_ext h1) (bytes_ext h2)
  · rintro rfl
    exact ⟨rfl, rfl⟩
def Tri.same (q : Tri) : ByteArray × ByteArray × Bool :=
  if q.q0 = q.q1 ∨ q.q0 = q.q2 then (q.q0.1, q.q0.2, true) else if q.q1 = q.q2 then (q.q1.1, q.q1.2, true) else (⟨#[]⟩, ⟨#[]⟩, false)
theorem same_spec (q : Tri) : Ev (fun k => spec_l06Same.f k q.q0.1 q.q0.2 q.q1.1 q.q1.2 q.q2.1 q.q2.2) q.same := by
  unfold spec_l06Same.f Tri.same
  by_cases h1 : q.q0 = q.q1
  · simp only [if_pos ((eqP q.q0 q.q1).2 h1), if_pos (show q.q0 = q.q1 ∨ q.q0 = q.q2 from .inl h1)]
    exact Ev.step (f := fun _ => some _) (fun k => by rw [spec_l06Same.j0, if_pos rfl]) (Ev.now _)
  · simp only [if_neg (fun z => h1 ((eqP q.q0 q.q1).1 z))]
    by_cases h2 : q.q0 = q.q2
    · simp only [(eqP q.q0 q.q2).2 h2, if_pos (show q.q0 = q.q1 ∨ q.q0 = q.q2 from .inr h2)]
      exact Ev.step (f := fun _ => some _) (fun k => by rw [spec_l06Same.j0, if_pos rfl]) (Ev.now _)
    · have e2 : (q.q0.1.toList == q.q2.1.toList && (q.q0.2.toList == q.q2.2.toList)) = false := Bool.eq_false_iff.2 (fun z => h2 ((eqP q.q0 q.q2).1 z))
      simp only [e2, if_neg (show ¬ (q.q0 = q.q1 ∨ q.q0 = q.q2) from fun z => z.elim h1 h2)]
      by_cases h3 : q.q1 = q.q2
      · rw [if_pos h3]
        exact Ev.step (f := fun _ => some _) (fun k => by rw [spec_l06Same.j0, if_neg (by decide), if_pos ((eqP q.q1 q.q2).2 h3)]) (Ev.now _)
      · rw [if_neg h3]
        exact Ev.step (f := fun _ => some _) (fun k => by rw [spec_l06Same.j0, if_neg (by decide), if_neg (fun z => h3 ((eqP q.q1 q.q2).1 z))]) (Ev.now _)
theorem same_impl (q : Tri) : Ev (fun k => impl_three_twice.f k q.q0.1 q.q0.2 q.q1.1 q.q1.2 q.q2.1 q.q2.2) q.same := by
  unfold impl_three_twice.f Tri.same
  by_cases h1 : q.q0 = q.q1
  · simp only [if_pos ((eqP q.q0 q.q1).2 h1), if_pos (show q.q0 = q.q1 ∨ q.q0 = q.q2 from .inl h1)]
    exact Ev.step (f := fun _ => some _) (fun k => by rw [impl_three_twice.j0, if_pos rfl]) (Ev.now _)
  · simp only [if_neg (fun z => h1 ((eqP q.q0 q.q1).1 z))]
    by_cases h2 : q.q0 = q.q2
    · simp only [(eqP q.q0 q.q2).2 h2, if_pos (show q.q0 = q.q1 ∨ q.q0 = q.q2 from .inr h2)]
      exact Ev.step (f := fun _ => some _) (fun k => by rw [impl_three_twice.j0, if_pos rfl]) (Ev.now _)
    · have e2 : (q.q0.1.toList == q.q2.1.toList && (q.q0.2.toList == q.q2.2.toList)) = false := Bool.eq_false_iff.2 (fun z => h2 ((eqP q.q0 q.q2).1 z))
      simp only [e2, if_neg (show ¬ (q.q0 = q.q1 ∨ q.q0 = q.q2) from fun z => z.elim h1 h2)]
      by_cases h3 : q.q1 = q.q2
      · rw [if_pos h3]
        exact Ev.step (f := fun _ => some _) (fun k => by rw [impl_three_twice.j0, if_neg (by decide), if_pos ((eqP q.q1 q.q2).2 h3)]) (Ev.now _)
      · rw [if_neg h3]
        exact Ev.step (f := fun _ => some _) (fun k => by rw [impl_three_twice.j0, if_neg (by decide), if_neg (fun z => h3 ((eqP q.q1 q.q2).1 z))]) (Ev.now _)
def told (c : ByteArray × ByteArray) : ByteArray × ByteArray × Bool := (c.1, c.2, decide (c.1.size + c.2.size ≤ 64))
def handed (r : ByteArray × ByteArray × Bool) : ByteArray × ByteArray × Int := if r.2.2 = true then (r.1, r.2.1, 0) else (⟨#[]⟩, ⟨#[]⟩, 3)
theorem both_told (x y : ByteArray) (hy : 1 ≤ y.size) (h : x.size + y.size ≤ 4096) : ∃ c, Ev (fun k => spec_l06Told.f k x y) (told c) ∧ Ev (fun k => midEnd k x y) (handed (told c)) := by
  obtain ⟨c, c1, c2, c3, c4, c5, _⟩ := both_canon x y hy h
  refine ⟨c, ?_, ?_⟩
  · unfold spec_l06Told.f told
    refine Ev.bind c1 ?_
    rw [wrS (by omega) (by omega)]
    have e : decide ((c.1.size : Int) + (c.2.size : Int) ≤ 64) = decide (c.1.size + c.2.size ≤ 64) := by rw [decide_eq_decide]; omega
    rw [e]
    exact Ev.now _
  · unfold midEnd
    refine Ev.bind c2 ?_
    unfold impl_short.f handed told
    rw [wrS (by omega) (by omega)]
    by_cases h64 : c.1.size + c.2.size ≤ 64
    · rw [if_neg (by omega), if_pos (by simpa using h64)]
      exact Ev.now _
    · rw [if_pos (by omega), if_neg (by simpa using h64)]
      exact Ev.now _
abbrev S3 := S50
def Tri.s (q : Tri) : S3 := ⟨⟨q.q0.1, q.q0.2⟩, ⟨q.q1.1, q.q1.2⟩, ⟨q.q2.1, q.q2.2⟩⟩
theorem Tri.ext_ {q r : Tri} (h0 : q.q0 = r.q0) (h1 : q.q1 = r.q1) (h2 : q.q2 = r.q2) : q = r := by
  cases q; cases r; simp_all
theorem Tri.p_inj {q r : Tri} (h : q.p = r.p) : q = r := by
  simp only [Tri.p, P6.mk.injEq] at h
  obtain ⟨h0, h1, h2, h3, h4, h5⟩ := h
  exact Tri.ext_ (Prod.ext h0 h1) (Prod.ext h2 h3) (Prod.ext h4 h5)
theorem eqT (q r : Tri) : ((q.q0.1.toList == r.q0.1.toList && (q.q0.2.toList == r.q0.2.toList)) && ((q.q1.1.toList == r.q1.1.toList && (q.q1.2.toList == r.q1.2.toList)) && (q.q2.1.toList == r.q2.1.toList && (q.q2.2.toList == r.q2.2.toList)))) = true ↔ q = r := by
  rw [Bool.and_eq_true (a := (q.q0.1.toList == r.q0.1.toList && (q.q0.2.toList == r.q0.2.toList))), Bool.and_eq_true (a := (q.q1.1.toList == r.q1.1.toList && (q.q1.2.toList == r.q1.2.toList))), eqP, eqP, eqP]
  constructor
  · rintro ⟨h0, h1, h2⟩; exact Tri.ext_ h0 h1 h2
  · rintro rfl; exact ⟨rfl, rfl, rfl⟩
theorem eqT' (q r : Tri) : ((q.s.f0.f0.toList == r.q0.1.toList && (q.s.f0.f1.toList == r.q0.2.toList)) && ((q.s.f1.f0.toList == r.q1.1.toList && (q.s.f1.f1.toList == r.q1.2.toList)) && (q.s.f2.f0.toList == r.q2.1.toList && (q.s.f2.f1.toList == r.q2.2.toList)))) = true ↔ q = r := eqT q r
theorem rd_s (qs : List Tri) (j : Nat) (hj : j < qs.length) : rd_T50 (qs.map Tri.s) (j : Int) = qs[j].s := by
  unfold rd_T50
  rw [Int.toNat_natCast, List.getD_eq_getElem?_getD, List.getElem?_map, List.getElem?_eq_getElem hj]
  rfl
theorem l1_step (qs : List Tri) (q : Tri) (w : List Int) (i c : Int) (v : ByteArray × ByteArray) (j : Nat) (hj : j < qs.length) (h2 : qs.length ≤ 1000) (hw : qs.length = w.length) (k : Nat) :
    spec_l06Middle.l1 (k + 1) w (qs.map Tri.s) i c (j : Int) v.1 v.2 q.q0.1 q.q0.2 q.q1.1 q.q1.2 q.q2.1 q.q2.2 =
      if qs[j] = q then (spec_l06Told.f k (strOfNums (w.take j)) (strOfNums (w.drop j))) else spec_l06Middle.l1 k w (qs.map Tri.s) i c ((j + 1 : Nat) : Int) v.1 v.2 q.q0.1 q.q0.2 q.q1.1 q.q1.2 q.q2.1 q.q2.2 := by
  rw [spec_l06Middle.l1, if_pos (by rw [List.length_map]; omega), if_pos (by omega), rd_s qs j hj, wrS (x := (j : Int) + 1) (by omega) (by omega)]
  by_cases e : qs[j] = q
  · rw [if_pos e, if_pos ((eqT' qs[j] q).2 e), if_pos (by omega), Int.toNat_natCast]
    cases spec_l06Told.f k (strOfNums (w.take j)) (strOfNums (w.drop j)) with
    | none => rfl
    | some r => rfl
  · rw [if_neg e, if_neg (fun z => e ((eqT' qs[j] q).1 z))]
    rfl
theorem l1_end (qs : List Tri) (q : Tri) (w : List Int) (i c : Int) (v : ByteArray × ByteArray) (h2 : qs.length ≤ 1000) (hw : qs.length = w.length) (k : Nat) :
    spec_l06Middle.l1 (k + 1) w (qs.map Tri.s) i c (qs.length : Int) v.1 v.2 q.q0.1 q.q0.2 q.q1.1 q.q1.2 q.q2.1 q.q2.2 =
      spec_l06Middle.l2 k (w ++ [c]) ((qs ++ [q]).map Tri.s) i c 0 v.1 v.2 q.q0.1 q.q0.2 q.q1.1 q.q1.2 q.q2.1 q.q2.2 := by
  rw [spec_l06Middle.l1, if_neg (by rw [List.length_map]; omega), if_pos (by rw [List.length_map]; omega), if_pos (by omega), List.map_append]
  rfl
theorem scan_none {qs : List Tri} {q : Tri} {w : List Int} {i c : Int} {v : ByteArray × ByteArray} {r : ByteArray × ByteArray × Bool} (h2 : qs.length ≤ 1000) (hw : qs.length = w.length)
    (hr : Ev (fun k => spec_l06Middle.l2 k (w ++ [c]) ((qs ++ [q]).map Tri.s) i c 0 v.1 v.2 q.q0.1 q.q0.2 q.q1.1 q.q1.2 q.q2.1 q.q2.2) r) :
    ∀ d j, j + d = qs.length → (∀ t (ht : t < qs.length), j ≤ t → qs[t] ≠ q) → Ev (fun k => spec_l06Middle.l1 k w (qs.map Tri.s) i c (j : Int) v.1 v.2 q.q0.1 q.q0.2 q.q1.1 q.q1.2 q.q2.1 q.q2.2) r := by
  intro d
  induction d with
  | zero =>
    intro j hj _
    obtain rfl : j = qs.length := by omega
    exact Ev.step (fun k => l1_end qs q w i c v h2 hw k) hr
  | succ d ih =>
    intro j hj hn
    exact Ev.step (fun k => by rw [l1_step qs q w i c v j (by omega) h2 hw k, if_neg (hn j (by omega) (Nat.le_refl _))]) (ih (j + 1) (by omega) (fun t ht hjt => hn t ht (by omega)))
theorem scan_some {qs : List Tri} {q : Tri} {w : List Int} {i c : Int} {v : ByteArray × ByteArray} {r : ByteArray × ByteArray × Bool} (h2 : qs.length ≤ 1000) (hw : qs.length = w.length) (m : Nat) (hm : m < qs.length) (he : qs[m] = q)
    (hr : Ev (fun k => spec_l06Told.f k (strOfNums (w.take m)) (strOfNums (w.drop m))) r) :
    ∀ d j, j + d = m → (∀ t (ht : t < qs.length), t < m → qs[t] ≠ q) → Ev (fun k => spec_l06Middle.l1 k w (qs.map Tri.s) i c (j : Int) v.1 v.2 q.q0.1 q.q0.2 q.q1.1 q.q1.2 q.q2.1 q.q2.2) r := by
  intro d
  induction d with
  | zero =>
    intro j hj _
    obtain rfl : j = m := by omega
    exact Ev.step (fun k => by rw [l1_step qs q w i c v j hm h2 hw k, if_pos he]) hr
  | succ d ih =>
    intro j hj hn
    exact Ev.step (fun k => by rw [l1_step qs q w i c v j (by omega) h2 hw k, if_neg (hn j (by omega) (by omega))]) (ih (j + 1) (by omega) hn)
theorem idx_none : ∀ (qs : List Tri) (q : Tri), idx6 (qs.map Tri.p) q.p = none → ∀ t (ht : t < qs.length), qs[t] ≠ q
  | [], _, _, t, ht => by simp at ht
  | x :: r, q, h, t, ht => by
    simp only [List.map_cons, idx6] at h
    split at h
    · cases h
    · rename_i hne
      cases t with
      | zero => intro e; apply hne; rw [← e]; rfl
      | succ t => exact idx_none r q (by simpa using h) t (by simpa using ht)
theorem idx_some : ∀ (qs : List Tri) (q : Tri) (m : Nat), idx6 (qs.map Tri.p) q.p = some m → ∃ hm : m < qs.length, qs[m] = q ∧ ∀ t (ht : t < qs.length), t < m → qs[t] ≠ q
  | [], _, _, h => by cases h
  | x :: r, q, m, h => by
    simp only [List.map_cons, idx6] at h
    split at h
    · rename_i he
      obtain rfl := Option.some.inj h
      exact ⟨by simp, Tri.p_inj he, fun t _ h => by omega⟩
    · rename_i hne
      obtain ⟨m', hm', rfl⟩ := Option.map_eq_some_iff.1 h
      obtain ⟨h1, h2, h3⟩ := idx_some r q m' hm'
      refine ⟨by simp; omega, h2, fun t ht hlt => ?_⟩
      cases t with
      | zero => intro e; apply hne; rw [← e]; rfl
      | succ t => exact h3 t (by simpa using ht) (by omega)
theorem l2_0 {w : List Int} {ss : List S3} {i c : Int} {v s0 s1 s2 : ByteArray × ByteArray} (h : Val s0) (k : Nat) :
    spec_l06Middle.l2 (k + 1) w ss i c 0 v.1 v.2 s0.1 s0.2 s1.1 s1.2 s2.1 s2.2 = spec_l06Middle.l2 k w ss i c 1 v.1 v.2 (mvP v c s0).1 (mvP v c s0).2 s1.1 s1.2 s2.1 s2.2 := by
  rw [spec_l06Middle.l2, if_pos (by decide), if_pos rfl, (hd_val h).1, Option.bind_some]
  unfold mvP
  by_cases e1 : hd s0 = c
  · rw [if_pos e1, if_neg (fun z => z.1 e1), shift_eq s0.1 s0.2 h.one h.le, Option.bind_some]; rfl
  · rw [if_neg e1]
    by_cases e2 : hd s0 = 42
    · rw [if_pos e2, if_neg (fun z => z.2 e2), shift_eq s0.1 s0.2 h.one h.le, Option.bind_some]; rfl
    · rw [if_neg e2, if_pos ⟨e1, e2⟩]; rfl
theorem l2_1 {w : List Int} {ss : List S3} {i c : Int} {v s0 s1 s2 : ByteArray × ByteArray} (h : Val s1) (k : Nat) :
    spec_l06Middle.l2 (k + 1) w ss i c 1 v.1 v.2 s0.1 s0.2 s1.1 s1.2 s2.1 s2.2 = spec_l06Middle.l2 k w ss i c 2 v.1 v.2 s0.1 s0.2 (mvP v c s1).1 (mvP v c s1).2 s2.1 s2.2 := by
  rw [spec_l06Middle.l2, if_pos (by decide), if_neg (by decide), if_pos rfl, (hd_val h).1, Option.bind_some]
  unfold mvP
  by_cases e1 : hd s1 = c
  · rw [if_pos e1, if_neg (fun z => z.1 e1), shift_eq s1.1 s1.2 h.one h.le, Option.bind_some]; rfl
  · rw [if_neg e1]
    by_cases e2 : hd s1 = 42
    · rw [if_pos e2, if_neg (fun z => z.2 e2), shift_eq s1.1 s1.2 h.one h.le, Option.bind_some]; rfl
    · rw [if_neg e2, if_pos ⟨e1, e2⟩]; rfl
theorem l2_2 {w : List Int} {ss : List S3} {i c : Int} {v s0 s1 s2 : ByteArray × ByteArray} (h : Val s2) (k : Nat) :
    spec_l06Middle.l2 (k + 1) w ss i c 2 v.1 v.2 s0.1 s0.2 s1.1 s1.2 s2.1 s2.2 = spec_l06Middle.l2 k w ss i c 3 v.1 v.2 s0.1 s0.2 s1.1 s1.2 (mvP v c s2).1 (mvP v c s2).2 := by
  rw [spec_l06Middle.l2, if_pos (by decide), if_neg (by decide), if_neg (by decide), if_pos rfl, (hd_val h).1, Option.bind_some]
  unfold mvP
  by_cases e1 : hd s2 = c
  · rw [if_pos e1, if_neg (fun z => z.1 e1), shift_eq s2.1 s2.2 h.one h.le, Option.bind_some]; rfl
  · rw [if_neg e1]
    by_cases e2 : hd s2 = 42
    · rw [if_pos e2, if_neg (fun z => z.2 e2), shift_eq s2.1 s2.2 h.one h.le, Option.bind_some]; rfl
    · rw [if_neg e2, if_pos ⟨e1, e2⟩]; rfl
theorem ev_l2 {w : List Int} {ss : List S3} {i : Nat} {c : Int} {v : ByteArray × ByteArray} {q : Tri} (hi : i ≤ 1000) (h : q.Ok v) {r : ByteArray × ByteArray × Bool}
    (hr : Ev (fun k => spec_l06Middle.l0 k w ss ((i + 1 : Nat) : Int) v.1 v.2 (q.mv v c).q0.1 (q.mv v c).q0.2 (q.mv v c).q1.1 (q.mv v c).q1.2 (q.mv v c).q2.1 (q.mv v c).q2.2) r) :
    Ev (fun k => spec_l06Middle.l2 k w ss (i : Int) c 0 v.1 v.2 q.q0.1 q.q0.2 q.q1.1 q.q1.2 q.q2.1 q.q2.2) r := by
  refine Ev.step (fun k => l2_0 h.v0 k) ?_
  refine Ev.step (fun k => l2_1 h.v1 k) ?_
  refine Ev.step (fun k => l2_2 h.v2 k) ?_
  exact Ev.step (fun k => by rw [spec_l06Middle.l2, if_neg (by decide), wrS (x := (i : Int) + 1) (by omega) (by omega)]; rfl) hr
theorem str_list (w : List Int) : (strOfNums w).data.toList = w.map fun x => x.toNat.toUInt8 := by simp [strOfNums]
theorem str_size (w : List Int) : (strOfNums w).size = w.length := by
  have := congrArg List.length (str_list w)
  rw [Array.length_toList, List.length_map] at this
  exact this
theorem str_take (w : List Int) (i : Nat) : (strOfNums w).extract 0 i = strOfNums (w.take i) := by
  apply ext_data
  rw [extract_list, str_list, str_list, List.drop_zero, Nat.sub_zero, List.map_take]
theorem str_drop (w : List Int) (i : Nat) : (strOfNums w).extract i (strOfNums w).size = strOfNums (w.drop i) := by
  apply ext_data
  rw [extract_list, str_list, str_list, str_size, List.map_drop, List.take_of_length_le (by simp)]
theorem str_push (w : List Int) {c : Int} (h : c = 48 ∨ c = 49) : strOfNums w ++ Utf8.encode c = strOfNums (w ++ [c]) := by
  apply ext_data
  rw [append_list, str_list, str_list, List.map_append]
  rcases h with rfl | rfl <;> rfl
theorem tri_sizes {v : ByteArray × ByteArray} {q : Tri} (h : q.Ok v) : q.p.ok := by
  have h0 := h.v0.le
  have h1 := h.v1.le
  have h2 := h.v2.le
  unfold P6.ok Tri.p
  refine ⟨?_, ?_, ?_, ?_, ?_, ?_⟩ <;> dsimp only <;> omega
theorem same_val {v : ByteArray × ByteArray} {q : Tri} (h : q.Ok v) (hs : q.same.2.2 = true) : 1 ≤ q.same.2.1.size ∧ q.same.1.size + q.same.2.1.size ≤ 64 := by
  unfold Tri.same at *
  split
  · exact ⟨h.v0.one, h.v0.le⟩
  · split
    · exact ⟨h.v1.one, h.v1.le⟩
    · rename_i h1 h2
      rw [if_neg h1, if_neg h2] at hs
      cases hs
theorem same_ne {q : Tri} (hs : q.same.2.2 = false) : q.q0 ≠ q.q1 ∧ q.q0 ≠ q.q2 ∧ q.q1 ≠ q.q2 := by
  unfold Tri.same at hs
  split at hs
  · cases hs
  · rename_i h1
    split at hs
    · cases hs
    · rename_i h2
      exact ⟨fun e => h1 (.inl e), fun e => h1 (.inr e), h2⟩
theorem mid_round {v : ByteArray × ByteArray} (hv : Val v) (hpv : Pt v v) (hv1 : v.1.size = 0) (hv2 : bt v.2 ((v.2.size - 1 : Nat) : Int) = 42) (w : List Int) (qs : List Tri) (q : Tri) (hw : w.length ≤ 600) (hq : qs.length = w.length) (h : q.Ok v) (hseen : ∀ t, t ∈ qs → t.vote.2 = -1)
    (next : q.vote.2 = -1 → (q.vote.1 = 48 ∨ q.vote.1 = 49) → ∃ r, Ev (fun k => spec_l06Middle.l2 k (w ++ [q.vote.1]) ((qs ++ [q]).map Tri.s) (w.length : Int) q.vote.1 0 v.1 v.2 q.q0.1 q.q0.2 q.q1.1 q.q1.2 q.q2.1 q.q2.2) r ∧
      Ev (fun k => if (strOfNums w).size = 600 then some (⟨#[]⟩, ⟨#[]⟩, 3) else impl_Sequence_middle.l v.1 v.2 k (q.mv v q.vote.1).p (strOfNums (w ++ [q.vote.1])) ((qs ++ [q]).map Tri.p)) (handed r)) :
    ∃ r, Ev (fun k => spec_l06Middle.l0 k w (qs.map Tri.s) (w.length : Int) v.1 v.2 q.q0.1 q.q0.2 q.q1.1 q.q1.2 q.q2.1 q.q2.2) r ∧ Ev (fun k => impl_Sequence_middle.l v.1 v.2 k q.p (strOfNums w) (qs.map Tri.p)) (handed r) := by
  have gd : q.p.ok ∧ (strOfNums w).size ≤ 600 ∧ (qs.map Tri.p).length = (strOfNums w).size := ⟨tri_sizes h, by rw [str_size]; exact hw, by rw [str_size, List.length_map]; exact hq⟩
  have hsz := str_size w
  by_cases hs : q.same.2.2 = true
  · obtain ⟨z1, z2⟩ := same_val h hs
    obtain ⟨c, c1, c2⟩ := both_told (strOfNums w ++ q.same.1) q.same.2.1 z1 (by rw [ByteArray.size_append]; omega)
    refine ⟨told c, ?_, ?_⟩
    · refine Ev.step (fun k => (spec_l06Middle.l0.eq_2 _ _ _ _ _ _ _ _ _ _ _ _).trans (if_pos (by omega))) ?_
      refine Ev.bind (same_spec q) ?_
      simp only [if_pos hs, if_pos (show (strOfNums w).size + q.same.1.size ≤ 9223372036854775807 by omega)]
      exact Ev.bind c1 (Ev.now _)
    · refine Ev.step (fun k => (impl_Sequence_middle.l.eq_2 _ _ _ _ _ _).trans (if_pos gd)) ?_
      refine Ev.bind (same_impl q) ?_
      simp only [if_pos hs, if_pos (show q.same.1.size ≤ 1000 by omega)]
      exact c2
  · have hs' : q.same.2.2 = false := Bool.eq_false_iff.2 hs
    obtain ⟨d0, d1, d2⟩ := same_ne hs'
    obtain ⟨lv, lc⟩ := letters_val h hv1 hv2 d0 d1 d2
    have vv : impl_three_vote.f q.p.p0 q.p.p1 q.p.p2 q.p.p3 q.p.p4 q.p.p5 = some q.vote := vote_val h
    by_cases hst : 0 ≤ q.vote.2
    · have hnone : idx6 (qs.map Tri.p) q.p = none := by
        cases hi : idx6 (qs.map Tri.p) q.p with
        | none => rfl
        | some m =>
          obtain ⟨hm, e, _⟩ := idx_some qs q m hi
          have := hseen _ (List.getElem_mem hm)
          rw [e] at this
          omega
      have lc' : q.vote.2 = 0 ∨ q.vote.2 = 1 ∨ q.vote.2 = 2 := by
        rcases lc with lc | lc
        · have := lc.1; omega
        · exact lc
      rcases lc' with e | e | e
      · obtain ⟨c, c1, c2⟩ := both_told (strOfNums w ++ q.q0.1) q.q0.2 h.v0.one (by rw [ByteArray.size_append]; have := h.v0.le; omega)
        refine ⟨told c, ?_, ?_⟩
        · refine Ev.step (fun k => (spec_l06Middle.l0.eq_2 _ _ _ _ _ _ _ _ _ _ _ _).trans (if_pos (by omega))) ?_
          refine Ev.bind (same_spec q) ?_
          simp only [if_neg hs, lv, Option.bind_some, if_pos (show q.vote.2 ≥ 0 from hst), if_pos e, if_pos (show (strOfNums w).size + q.q0.1.size ≤ 9223372036854775807 by have := h.v0.le; omega)]
          exact Ev.bind c1 (Ev.now _)
        · refine Ev.step (fun k => (impl_Sequence_middle.l.eq_2 _ _ _ _ _ _).trans (if_pos gd)) ?_
          refine Ev.bind (same_impl q) ?_
          simp only [if_neg hs, hnone, vv, Option.bind_some, if_pos hst, if_pos e]
          exact c2
      · obtain ⟨c, c1, c2⟩ := both_told (strOfNums w ++ q.q1.1) q.q1.2 h.v1.one (by rw [ByteArray.size_append]; have := h.v1.le; omega)
        refine ⟨told c, ?_, ?_⟩
        · refine Ev.step (fun k => (spec_l06Middle.l0.eq_2 _ _ _ _ _ _ _ _ _ _ _ _).trans (if_pos (by omega))) ?_
          refine Ev.bind (same_spec q) ?_
          simp only [if_neg hs, lv, Option.bind_some, if_pos (show q.vote.2 ≥ 0 from hst), if_neg (show ¬ q.vote.2 = 0 by omega), if_pos e, if_pos (show (strOfNums w).size + q.q1.1.size ≤ 9223372036854775807 by have := h.v1.le; omega)]
          exact Ev.bind c1 (Ev.now _)
        · refine Ev.step (fun k => (impl_Sequence_middle.l.eq_2 _ _ _ _ _ _).trans (if_pos gd)) ?_
          refine Ev.bind (same_impl q) ?_
          simp only [if_neg hs, hnone, vv, Option.bind_some, if_pos hst, if_neg (show ¬ q.vote.2 = 0 by omega), if_pos e]
          exact c2
      · obtain ⟨c, c1, c2⟩ := both_told (strOfNums w ++ q.q2.1) q.q2.2 h.v2.one (by rw [ByteArray.size_append]; have := h.v2.le; omega)
        refine ⟨told c, ?_, ?_⟩
        · refine Ev.step (fun k => (spec_l06Middle.l0.eq_2 _ _ _ _ _ _ _ _ _ _ _ _).trans (if_pos (by omega))) ?_
          refine Ev.bind (same_spec q) ?_
          simp only [if_neg hs, lv, Option.bind_some, if_pos (show q.vote.2 ≥ 0 from hst), if_neg (show ¬ q.vote.2 = 0 by omega), if_neg (show ¬ q.vote.2 = 1 by omega), if_pos e, if_pos (show (strOfNums w).size + q.q2.1.size ≤ 9223372036854775807 by have := h.v2.le; omega)]
          exact Ev.bind c1 (Ev.now _)
        · refine Ev.step (fun k => (impl_Sequence_middle.l.eq_2 _ _ _ _ _ _).trans (if_pos gd)) ?_
          refine Ev.bind (same_impl q) ?_
          simp only [if_neg hs, hnone, vv, Option.bind_some, if_pos hst, if_neg (show ¬ q.vote.2 = 0 by omega), if_neg (show ¬ q.vote.2 = 1 by omega), if_pos e]
          exact c2
    · have lc' : q.vote.2 = -1 ∧ (q.vote.1 = 48 ∨ q.vote.1 = 49) := by
        rcases lc with lc | lc
        · exact lc
        · omega
      have hsp : ∀ r, Ev (fun k => spec_l06Middle.l1 k w (qs.map Tri.s) (w.length : Int) q.vote.1 ((0 : Nat) : Int) v.1 v.2 q.q0.1 q.q0.2 q.q1.1 q.q1.2 q.q2.1 q.q2.2) r → Ev (fun k => spec_l06Middle.l0 k w (qs.map Tri.s) (w.length : Int) v.1 v.2 q.q0.1 q.q0.2 q.q1.1 q.q1.2 q.q2.1 q.q2.2) r := by
        intro r hr
        refine Ev.step (fun k => (spec_l06Middle.l0.eq_2 _ _ _ _ _ _ _ _ _ _ _ _).trans (if_pos (by omega))) ?_
        refine Ev.bind (same_spec q) ?_
        simp only [if_neg hs, lv, Option.bind_some, if_neg (show ¬ q.vote.2 ≥ 0 from hst)]
        exact hr
      cases hi : idx6 (qs.map Tri.p) q.p with
      | some m =>
        obtain ⟨hm, he, hlt⟩ := idx_some qs q m hi
        obtain ⟨c, c1, c2⟩ := both_told (strOfNums (w.take m)) (strOfNums (w.drop m)) (by rw [str_size, List.length_drop]; omega) (by rw [str_size, str_size, List.length_drop, List.length_take]; omega)
        refine ⟨told c, hsp _ (scan_some (by omega) hq m hm he c1 m 0 (by omega) hlt), ?_⟩
        refine Ev.step (fun k => (impl_Sequence_middle.l.eq_2 _ _ _ _ _ _).trans (if_pos gd)) ?_
        refine Ev.bind (same_impl q) ?_
        simp only [if_neg hs, hi, str_take, str_drop]
        exact c2
      | none =>
        obtain ⟨r, r1, r2⟩ := next lc'.1 lc'.2
        refine ⟨r, hsp _ (scan_none (by omega) hq r1 qs.length 0 (by omega) (fun t ht _ => idx_none qs q hi t ht)), ?_⟩
        refine Ev.step (fun k => (impl_Sequence_middle.l.eq_2 _ _ _ _ _ _).trans (if_pos gd)) ?_
        refine Ev.bind (same_impl q) ?_
        simp only [if_neg hs, hi, vv, Option.bind_some, if_neg hst]
        refine Ev.congr (fun k => ?_) r2
        have mm : impl_Sequence_moved.f v.1 v.2 q.p.p0 q.p.p1 q.p.p2 q.p.p3 q.p.p4 q.p.p5 q.vote.1 = _ := moved_val h q.vote.1
        by_cases h6 : (strOfNums w).size = 600
        · rw [if_pos h6, if_pos h6]
        · rw [if_neg h6, if_neg h6, if_pos lc'.2, mm, Option.bind_some, str_push w lc'.2, List.map_append]
          rfl
theorem both_mid {v : ByteArray × ByteArray} (hv : Val v) (hpv : Pt v v) (hv1 : v.1.size = 0) (hv2 : bt v.2 ((v.2.size - 1 : Nat) : Int) = 42) :
    ∀ (d : Nat) (w : List Int) (qs : List Tri) (q : Tri), w.length + d = 600 → qs.length = w.length → q.Ok v → (∀ t, t ∈ qs → t.vote.2 = -1) →
      ∃ r, Ev (fun k => spec_l06Middle.l0 k w (qs.map Tri.s) (w.length : Int) v.1 v.2 q.q0.1 q.q0.2 q.q1.1 q.q1.2 q.q2.1 q.q2.2) r ∧ Ev (fun k => impl_Sequence_middle.l v.1 v.2 k q.p (strOfNums w) (qs.map Tri.p)) (handed r) := by
  intro d
  induction d with
  | zero =>
    intro w qs q hwd hq h hseen
    refine mid_round hv hpv hv1 hv2 w qs q (by omega) hq h hseen (fun _ _ => ⟨(⟨#[]⟩, ⟨#[]⟩, false), ?_, ?_⟩)
    · refine ev_l2 (by omega) h ?_
      exact Ev.step (f := fun _ => some _) (fun k => by rw [spec_l06Middle.l0, if_neg (by omega)]) (Ev.now _)
    · simp only [if_pos (show (strOfNums w).size = 600 by rw [str_size]; omega)]
      exact Ev.now _
  | succ d ih =>
    intro w qs q hwd hq h hseen
    refine mid_round hv hpv hv1 hv2 w qs q (by omega) hq h hseen (fun e _ => ?_)
    obtain ⟨r, r1, r2⟩ := ih (w ++ [q.vote.1]) (qs ++ [q]) (q.mv v q.vote.1) (by simp; omega) (by simp; omega) (h.mv hv hpv _) (fun t ht => by
      rcases List.mem_append.1 ht with ht | ht
      · exact hseen t ht
      · rw [List.mem_singleton.1 ht]; exact e)
    refine ⟨r, ?_, ?_⟩
    · refine ev_l2 (by omega) h ?_
      rw [List.length_append] at r1
      exact r1
    · simp only [if_neg (show ¬ (strOfNums w).size = 600 by rw [str_size]; omega)]
      exact r2
theorem star_self {v : ByteArray × ByteArray} (hv : Val v) (hv1 : v.1.size = 0) (h : ∀ i : Nat, i < v.2.size - 1 → bt v.2 (i : Int) ≠ 42) : Pt v v := by
  have e0 : v = (⟨#[]⟩, v.2) := by
    refine Prod.ext (ext_data ?_) rfl
    have e : v.1.data.toList.length = v.1.size := Array.length_toList (xs := v.1.data)
    show v.1.data.toList = _
    rw [List.length_eq_zero_iff.1 (show v.1.data.toList.length = 0 by omega)]
  have hlen : v.2.data.toList.length = v.2.size := Array.length_toList (xs := v.2.data)
  refine pt_of hv.one (fun j hj hst => ?_)
  obtain ⟨t1, t2⟩ := shN_turn v.2 j (by omega)
  rw [← e0] at t1 t2
  have hs : (shN j v).2.size = v.2.size := by
    have e : (shN j v).2.data.toList.length = (shN j v).2.size := Array.length_toList (xs := (shN j v).2.data)
    rw [← e, t2, List.length_append, List.length_drop, List.length_take]
    omega
  have hb : bt (shN j v).2 ((0 : Nat) : Int) = 42 := by
    have := hst
    unfold star atV at this
    rw [if_neg (by rw [t1]; show ¬ 0 < (0 : Nat); omega), t1] at this
    rw [show (0 - (⟨#[]⟩ : ByteArray).size) % (shN j v).2.size = 0 from by rw [show (⟨#[]⟩ : ByteArray).size = 0 from rfl, Nat.sub_zero, Nat.zero_mod]] at this
    exact this
  have h42 := (bt_star _ 0 (by rw [hs]; exact hv.one)).1 hb
  rw [t2, List.getElem?_append_left (by rw [List.length_drop]; omega), List.getElem?_drop, Nat.add_zero] at h42
  have hj2 : j = v.2.size - 1 := by
    refine Classical.byContradiction fun hne => h j (by omega) ?_
    exact (bt_star v.2 j (by omega)).2 h42
  rw [← shN_succ, hj2, Nat.sub_add_cancel hv.one]
  conv => lhs; rw [e0]
  rw [shN_round, ← e0]
theorem Ev.back {α : Type} {g f : Nat → Option α} {r : α} (h : ∀ k, g (k + 1) = f k) (k : Ev g r) : Ev f r := by
  obtain ⟨K, hK⟩ := k
  exact ⟨K, fun k hk => by rw [← h k]; exact hK (k + 1) (by omega)⟩
theorem Ev.val {α : Type} {a r : α} (h : Ev (fun _ => some a) r) : a = r := by
  obtain ⟨K, hK⟩ := h
  exact Option.some.inj (hK K (Nat.le_refl _))
theorem point_steps (p q a b : ByteArray) (h64 : a.size + b.size ≤ 64) : ∀ (d i : Nat) (s : ByteArray × ByteArray), i + d = a.size + b.size → 1 ≤ s.2.size → s.1.size + s.2.size ≤ 64 →
    Ev (fun k => spec_l06Point.l0 k (i : Int) p q a b s.1 s.2) true → ∀ j, j < d → star (shN j s) → sh (shN j s) = (p, q) := by
  intro d
  induction d with
  | zero => intro i s _ _ _ _ j hj; omega
  | succ d ih =>
    intro i s h hy hxy hev j hj hst
    have hs := sh_sizes s hy
    have ea := at_val s.1 s.2 0 hy (by omega) (by omega)
    have es : ∀ k, spec_l06Point.l0 (k + 1) (i : Int) p q a b s.1 s.2 = if atV s.1 s.2 0 = 42 then (if (!((sh s).1.toList == p.toList) || (!((sh s).2.toList == q.toList))) = true then some false else spec_l06Point.l0 k ((i + 1 : Nat) : Int) p q a b (sh s).1 (sh s).2) else spec_l06Point.l0 k ((i + 1 : Nat) : Int) p q a b (sh s).1 (sh s).2 := by
      intro k
      rw [spec_l06Point.l0, wrS (x := (a.size : Int) + (b.size : Int)) (by omega) (by omega), if_pos (by omega), shift_eq s.1 s.2 hy hxy, Option.bind_some, show (0 : Int) = ((0 : Nat) : Int) from rfl, ea, Option.bind_some, wrS (x := (i : Int) + 1) (by omega) (by omega)]
      rfl
    have e1 := Ev.back es hev
    by_cases h1 : atV s.1 s.2 0 = 42
    · by_cases h2 : (!((sh s).1.toList == p.toList) || (!((sh s).2.toList == q.toList))) = true
      · simp only [if_pos h1, if_pos h2] at e1
        cases Ev.val e1
      · simp only [if_pos h1, if_neg h2] at e1
        cases j with
        | zero =>
          refine (eqP (sh s) (p, q)).1 ?_
          simpa using h2
        | succ j => exact ih (i + 1) (sh s) (by omega) (by omega) (by omega) e1 j (by omega) hst
    · simp only [if_neg h1] at e1
      cases j with
      | zero => exact absurd hst h1
      | succ j => exact ih (i + 1) (sh s) (by omega) (by omega) (by omega) e1 j (by omega) hst
theorem point_pt {v s : ByteArray × ByteArray} (h1 : 1 ≤ s.2.size) (h64 : s.1.size + s.2.size ≤ 64) (h : Ev (fun k => spec_l06Point.f k v.1 v.2 s.1 s.2) true) : Pt v s := by
  unfold spec_l06Point.f at h
  exact pt_of h1 (fun j hj => point_steps v.1 v.2 s.1 s.2 h64 (s.1.size + s.2.size) 0 s (by omega) h1 h64 h j hj)
end Go.Proofs.Ytmhpbilkocnlnaa.Q
end
section
namespace Go.Proofs.Ytmhpbilkocnlnaa.Q
open Go.Proofs.YtmhpbilkocnlnaaW.Ext
open Go.RowKit Go.Proofs.YtmhpbilkocnlnaaW.PrintWords Go.Proofs.YtmhpbilkocnlnaaW.PrintLast Go.Proofs.YtmhpbilkocnlnaaW.PrintMore
attribute [local go_sem] max2_int min2_int max_two min_two max_three min_three max_four min_four   -- for this text's walks alone
set_option linter.unusedVariables false
set_option linter.unusedSimpArgs false
mutual
def spec_l06Code.l0:Nat → List (S25) → Int → ByteArray → ByteArray → Option (Int)
 | 0,_,_,_,_=>none
 | k + 1,x1,x5,x476000,x476001=>if x5 < (x1.length:Int) then (if 0 ≤ x5 then ((spec_l01Seq.f k ((rd_T25 x1 x5).f0) ((rd_T25 x1 x5).f1)).bind fun t478=>(if t478 = true then (spec_l06Code.l0 k x1 (wrap64 (x5 + 1)) x476000 x476001) else (some 1))) else (none)) else ((spec_l02Star.f k x476000 x476001).bind fun t479=>(if t479 = true then (spec_l06Code.l1 k x1 0 x476000 x476001) else (some 5)))
def spec_l06Code.l1:Nat → List (S25) → Int → ByteArray → ByteArray → Option (Int)
 | 0,_,_,_,_=>none
 | k + 1,x1,x6,x476000,x476001=>if x6 < (x1.length:Int) then (if 0 ≤ x6 then ((spec_l06Point.f k x476000 x476001 ((rd_T25 x1 x6).f0) ((rd_T25 x1 x6).f1)).bind fun t481=>(if t481 = true then (spec_l06Code.l1 k x1 (wrap64 (x6 + 1)) x476000 x476001) else (some 5))) else (none)) else (some 0)
end
def spec_l06Code.f (k:Nat) (a0_0:ByteArray) (a0_1:ByteArray) (l1:List (S25)):Option (Int):=(spec_l01Seq.f k a0_0 a0_1).bind fun t476=>(if t476 = true then (spec_l06Code.l0 k l1 0 a0_0 a0_1) else (some 1))
theorem spec_l06Code.mono_l:∀ k,(∀ y0 y1 y2 y3,LeO (spec_l06Code.l0 k y0 y1 y2 y3) (spec_l06Code.l0 (k + 1) y0 y1 y2 y3)) ∧ (∀ y0 y1 y2 y3,LeO (spec_l06Code.l1 k y0 y1 y2 y3) (spec_l06Code.l1 (k + 1) y0 y1 y2 y3))
 | 0=>⟨fun _ _ _ _ r h=>by simp [spec_l06Code.l0] at h,fun _ _ _ _ r h=>by simp [spec_l06Code.l1] at h⟩
 | k + 1=>by
  obtain ⟨ih0,ih1⟩:=spec_l06Code.mono_l k
  refine ⟨?_,?_⟩
  ·intro y0 y1 y2 y3
   unfold spec_l06Code.l0
   repeat' first
   | (with_reducible exact ih0 _ _ _ _)
   | (with_reducible exact ih1 _ _ _ _)
   | (with_reducible exact spec_l01Seq.mono _ _ _)
   | (with_reducible exact spec_l02Star.mono _ _ _)
   | (with_reducible exact spec_l06Point.mono _ _ _ _ _)
   | (with_reducible exact LeO.refl _)
   | (with_reducible exact LeO.none _)
   | (with_reducible refine LeO.ite ?_ ?_)
   | (with_reducible refine LeO.bind ?_ (fun _=>?_))
   | exact ih0 _ _ _ _
   | exact ih1 _ _ _ _
   | exact spec_l01Seq.mono _ _ _
   | exact spec_l02Star.mono _ _ _
   | exact spec_l06Point.mono _ _ _ _ _
   | exact LeO.none _
   | refine LeO.ite ?_ ?_
   | refine LeO.bind ?_ (fun _=>?_)
  ·intro y0 y1 y2 y3
   unfold spec_l06Code.l1
   repeat' first
   | (with_reducible exact ih0 _ _ _ _)
   | (with_reducible exact ih1 _ _ _ _)
   | (with_reducible exact spec_l01Seq.mono _ _ _)
   | (with_reducible exact spec_l02Star.mono _ _ _)
   | (with_reducible exact spec_l06Point.mono _ _ _ _ _)
   | (with_reducible exact LeO.refl _)
   | (with_reducible exact LeO.none _)
   | (with_reducible refine LeO.ite ?_ ?_)
   | (with_reducible refine LeO.bind ?_ (fun _=>?_))
   | exact ih0 _ _ _ _
   | exact ih1 _ _ _ _
   | exact spec_l01Seq.mono _ _ _
   | exact spec_l02Star.mono _ _ _
   | exact spec_l06Point.mono _ _ _ _ _
   | exact LeO.none _
   | refine LeO.ite ?_ ?_
   | refine LeO.bind ?_ (fun _=>?_)
theorem spec_l06Code.mono:∀ a0 a1 a2 k,LeO (spec_l06Code.f k a0 a1 a2) (spec_l06Code.f (k + 1) a0 a1 a2):=by
 intro a0 a1 a2 k
 obtain ⟨ih0,ih1⟩:=spec_l06Code.mono_l k
 unfold spec_l06Code.f
 repeat' first
   | (with_reducible exact ih0 _ _ _ _)
   | (with_reducible exact ih1 _ _ _ _)
   | (with_reducible exact spec_l01Seq.mono _ _ _)
   | (with_reducible exact spec_l02Star.mono _ _ _)
   | (with_reducible exact spec_l06Point.mono _ _ _ _ _)
   | (with_reducible exact LeO.refl _)
   | (with_reducible exact LeO.none _)
   | (with_reducible refine LeO.ite ?_ ?_)
   | (with_reducible refine LeO.bind ?_ (fun _=>?_))
   | exact ih0 _ _ _ _
   | exact ih1 _ _ _ _
   | exact spec_l01Seq.mono _ _ _
   | exact spec_l02Star.mono _ _ _
   | exact spec_l06Point.mono _ _ _ _ _
   | exact LeO.none _
   | refine LeO.ite ?_ ?_
   | refine LeO.bind ?_ (fun _=>?_)
set_option maxHeartbeats 8000000 in
set_option maxRecDepth 100000 in
theorem spec_l06Code.calls (k:Nat) (a0_0:ByteArray) (a0_1:ByteArray) (A1:Option Addr) (c1:Nat) (l1:List (S25)) (r:Int) (w:World) (hr1:Kd.C k25 w A1 l1.length l1) (hc1:l1.length ≤ c1) (h:spec_l06Code.f k a0_0 a0_1 l1 = some r) :
  Calls Try.prog 28 #[.agg #[.string a0_0,.string a0_1],.slice A1 l1.length c1] w fun e w'=>e = .returned (.int .i64 r) ∧ Below w.heap.size w w':=by
 have hu25:=Try.underlying25
 have HR1:=aM hr1;have HC1:=aM hc1
 clear hr1 hc1
 have HB:=aM (Below.refl w.heap.size w)
 have H:((spec_l01Seq.f k a0_0 a0_1).bind fun t476=>(if t476 = true then (spec_l06Code.l0 k l1 0 a0_0 a0_1) else (some 1))) = some r:=h
 clear h
 replace H:=Option.bind_eq_some_iff.mp H
 obtain ⟨t476,A30,H⟩:=H
 replace H:(if t476 = true then (spec_l06Code.l0 k l1 0 a0_0 a0_1) else (some 1)) = some r:=H;have A3:=aM A30
 clear A30
 by_cases c4:t476 = true
 ·subst c4
  have H1:(spec_l06Code.l0 k l1 0 a0_0 a0_1) = some r:=by rw [if_pos rfl] at H;exact H
  clear H
  have H:=H1
  clear H1
  have H':=aM H
  clear H
  go_enter Try.func28,Try.ntmps28
  go_wp2_with (first|((with_reducible refine gate_dst (N:=2) rfl ?_);refine box_event rfl (N:=2) rfl (cs:=#[.string a0_0,.string a0_1]) (t:=25) (by first|(go_simp;done)|(go_simp;rfl)) ?_;intro gb475 hg w5 hbox hb;have BK475:=aM (hbox);have GW475:=wl hg HB;have GE475:=wl hg HB;replace HB:=bs HB hb;clear hb hbox hg;have⟨a0,a1,b0,b1⟩:=q2f BK475)|((with_reducible refine gate_callee (f:=23) rfl ?_);refine goesL_ (some 8) rfl rfl Try.func23 (by kernel_rfl) rfl #[.agg #[.string a0_0,.string a0_1]] rfl (by (try simp only [sM,sC,sN]);first|done|rfl) ?_;(with_reducible refine (spec_l01Seq.calls k a0_0 a0_1 true _ A3.out).mono ?_);rintro e w7 ⟨rfl,hb⟩;refine ⟨_,rfl,?_⟩;replace BK475:=kb BK475 hb;replace HB:=bs HB hb;(try clear hb)))
  go_loopg [5] k (fun kq v5 w'=>∃ (x5_1:Int),v5 = .int .i64 x5_1 ∧ Aside0 (spec_l06Code.l0 kq l1 x5_1 a0_0 a0_1 = some r) ∧ Aside0 (kq ≤ k) ∧ Aside0 (w'.heap[gb475]? = some (.cells #[.string a0_0,.string a0_1] 25 (0,0))) ∧ Aside0 (Below w.heap.size w w'))
  case atStart=>exact ⟨(0),(by first|rfl|(simp;done)|(simp [*];done)),H',⟨Nat.le_refl _⟩,⟨bk BK475⟩,⟨bb HB⟩⟩
  case round =>
   clear H'
   try clear c1
   try clear c2
   try clear p2
   try clear c4
   try clear hcz6_0
   try clear hcz6_1
   try clear hfz6_0
   try clear hfz6_1
   obtain ⟨x5_1,rfl,HA,HK1,BK475,HB⟩:=hrel
   cases gk with
   | zero=>exact absurd HA.out (by simp [spec_l06Code.l0])
   | succ k1 =>
    have H:=HA.out
    clear HA
    simp only [spec_l06Code.l0] at H
    by_cases c8:x5_1 < (l1.length:Int)
    ·rw [if_pos c8] at H
     have c8b0:decide (x5_1 < (l1.length:Int)) = true:=decide_eq_true c8
     clear c8
     by_cases c9:0 ≤ x5_1
     ·rw [if_pos c9] at H
      have c9b0:decide (0 ≤ x5_1) = true:=decide_eq_true c9
      clear c9
      replace H:=Option.bind_eq_some_iff.mp H
      obtain ⟨t478,A100,H⟩:=H
      replace H:(if t478 = true then (spec_l06Code.l0 k1 l1 (wrap64 (x5_1 + 1)) a0_0 a0_1) else (some 1)) = some r:=H;have A10:=aM A100
      clear A100
      by_cases c11:t478 = true
      ·subst c11
       have H1:(spec_l06Code.l0 k1 l1 (wrap64 (x5_1 + 1)) a0_0 a0_1) = some r:=by rw [if_pos rfl] at H;exact H
       clear H
       have H:=H1
       clear H1
       have H':=aM H
       clear H
       have p477:0 ≤ (x5_1:Int):=of_decide_eq_true (by assumption)
       have q477:x5_1 < (l1.length:Int):=of_decide_eq_true (by assumption)
       obtain ⟨ad477,e477,hx477_0,hx477_1⟩:=at_T25 HR1.out x5_1 p477 q477
       cases e477
       replace hx477_0:=(HB.out.cell (World.block_lt_of_cell? w _ hx477_0)).trans hx477_0;replace hx477_1:=(HB.out.cell (World.block_lt_of_cell? w _ hx477_1)).trans hx477_1;replace p477:=eq_true p477;replace q477:=eq_true q477
       go_wp2_with (first|((with_reducible refine gate_callee (f:=23) rfl ?_);refine goesL_ (some 20) rfl rfl Try.func23 (by kernel_rfl) rfl #[.agg #[.string ((rd_T25 l1 x5_1).f0),.string ((rd_T25 l1 x5_1).f1)]] rfl (by (try simp only [sM,sC,sN]);first|done|rfl) ?_;(with_reducible refine (spec_l01Seq.calls k1 ((rd_T25 l1 x5_1).f0) ((rd_T25 l1 x5_1).f1) true _ A10.out).mono ?_);rintro e w12 ⟨rfl,hb⟩;refine ⟨_,rfl,?_⟩;replace BK475:=kb BK475 hb;replace HB:=bs HB hb;(try clear hb)))
       go_roundg k1
       case measure=>have:=HK1.out;omega
       case rel=>exact ⟨(wrap64 (x5_1 + 1)),(by first|rfl|(simp;done)|(simp [*];done)),H',⟨by have:=HK1.out;omega⟩,⟨bk BK475⟩,⟨bb HB⟩⟩
      ·replace c11:=Bool.eq_false_iff.mpr c11
       subst c11
       have H1:(some 1) = some r:=by rw [if_neg (show ¬ (false = true) by decide)] at H;exact H
       clear H
       have H:=H1
       clear H1
       obtain rfl:=Option.some.inj H
       have p477:0 ≤ (x5_1:Int):=of_decide_eq_true (by assumption)
       have q477:x5_1 < (l1.length:Int):=of_decide_eq_true (by assumption)
       obtain ⟨ad477,e477,hx477_0,hx477_1⟩:=at_T25 HR1.out x5_1 p477 q477
       cases e477
       replace hx477_0:=(HB.out.cell (World.block_lt_of_cell? w _ hx477_0)).trans hx477_0;replace hx477_1:=(HB.out.cell (World.block_lt_of_cell? w _ hx477_1)).trans hx477_1;replace p477:=eq_true p477;replace q477:=eq_true q477
       go_wp2_with (first|((with_reducible refine gate_callee (f:=23) rfl ?_);refine goesL_ (some 20) rfl rfl Try.func23 (by kernel_rfl) rfl #[.agg #[.string ((rd_T25 l1 x5_1).f0),.string ((rd_T25 l1 x5_1).f1)]] rfl (by (try simp only [sM,sC,sN]);first|done|rfl) ?_;(with_reducible refine (spec_l01Seq.calls k1 ((rd_T25 l1 x5_1).f0) ((rd_T25 l1 x5_1).f1) false _ A10.out).mono ?_);rintro e w13 ⟨rfl,hb⟩;refine ⟨_,rfl,?_⟩;replace BK475:=kb BK475 hb;replace HB:=bs HB hb;(try clear hb)))
       go_ret
       exact ⟨rfl,bb HB⟩
     ·rw [if_neg c9] at H
      exact absurd H (by simp)
    ·rw [if_neg c8] at H
     have c8b0:decide (x5_1 < (l1.length:Int)) = false:=decide_eq_false c8
     clear c8
     replace H:=Option.bind_eq_some_iff.mp H
     obtain ⟨t479,A140,H⟩:=H
     replace H:(if t479 = true then (spec_l06Code.l1 k1 l1 0 a0_0 a0_1) else (some 5)) = some r:=H;have A14:=aM A140
     clear A140
     by_cases c15:t479 = true
     ·subst c15
      have H1:(spec_l06Code.l1 k1 l1 0 a0_0 a0_1) = some r:=by rw [if_pos rfl] at H;exact H
      clear H
      have H:=H1
      clear H1
      have H':=aM H
      clear H
      have⟨a0,a1,b0,b1⟩:=q2f BK475
      go_wp2_with (first|((with_reducible refine gate_callee (f:=24) rfl ?_);refine goesL_ (some 23) rfl rfl Try.func24 (by kernel_rfl) rfl #[.agg #[.string a0_0,.string a0_1]] rfl (by (try simp only [sM,sC,sN]);first|done|rfl) ?_;(with_reducible refine (spec_l02Star.calls k1 a0_0 a0_1 true _ A14.out).mono ?_);rintro e w17 ⟨rfl,hb⟩;refine ⟨_,rfl,?_⟩;replace BK475:=kb BK475 hb;replace HB:=bs HB hb;(try clear hb)))
      go_loopg [6] k1 (fun kq v6 w'=>∃ (x6_2:Int),v6 = .int .i64 x6_2 ∧ Aside0 (spec_l06Code.l1 kq l1 x6_2 a0_0 a0_1 = some r) ∧ Aside0 (kq ≤ k1) ∧ Aside0 (w'.heap[gb475]? = some (.cells #[.string a0_0,.string a0_1] 25 (0,0))) ∧ Aside0 (Below w.heap.size w w'))
      case atStart=>exact ⟨(0),(by first|rfl|(simp;done)|(simp [*];done)),H',⟨Nat.le_refl _⟩,⟨bk BK475⟩,⟨bb HB⟩⟩
      case round =>
       clear H'
       try clear c1
       try clear c2
       try clear p2
       try clear c4
       try clear p4
       try clear q4
       try clear hx4
       try clear p6
       try clear c8
       try clear c8b0
       try clear c9
       try clear c9b0
       try clear c11
       try clear c15
       try clear hcz16_0
       try clear hcz16_1
       try clear hcz6_0
       try clear hcz6_1
       try clear hfz16_0
       try clear hfz16_1
       try clear hfz6_0
       try clear hfz6_1
       try clear hx477_0
       try clear hx477_1
       try clear p2
       try clear p477
       try clear q477
       obtain ⟨x6_2,rfl,HA,HK2,BK475,HB⟩:=hrel
       cases gk with
       | zero=>exact absurd HA.out (by simp [spec_l06Code.l1])
       | succ k2 =>
        have H:=HA.out
        clear HA
        simp only [spec_l06Code.l1] at H
        by_cases c18:x6_2 < (l1.length:Int)
        ·rw [if_pos c18] at H
         have c18b0:decide (x6_2 < (l1.length:Int)) = true:=decide_eq_true c18
         clear c18
         by_cases c19:0 ≤ x6_2
         ·rw [if_pos c19] at H
          have c19b0:decide (0 ≤ x6_2) = true:=decide_eq_true c19
          clear c19
          replace H:=Option.bind_eq_some_iff.mp H
          obtain ⟨t481,A200,H⟩:=H
          replace H:(if t481 = true then (spec_l06Code.l1 k2 l1 (wrap64 (x6_2 + 1)) a0_0 a0_1) else (some 5)) = some r:=H;have A20:=aM A200
          clear A200
          by_cases c21:t481 = true
          ·subst c21
           have H1:(spec_l06Code.l1 k2 l1 (wrap64 (x6_2 + 1)) a0_0 a0_1) = some r:=by rw [if_pos rfl] at H;exact H
           clear H
           have H:=H1
           clear H1
           have H':=aM H
           clear H
           try go_wp2
           replace BK475:=aM (yD BK475.out);replace HB:=aM (zD HB.out)
           have p480:0 ≤ (x6_2:Int):=of_decide_eq_true (by assumption)
           have q480:x6_2 < (l1.length:Int):=of_decide_eq_true (by assumption)
           obtain ⟨ad480,e480,hx480_0,hx480_1⟩:=at_T25 HR1.out x6_2 p480 q480
           have hw480_1:=hx480_1
           have hw480_0:=hx480_0
           cases e480
           replace hx480_0:=(HB.out.cell (World.block_lt_of_cell? w _ hx480_0)).trans hx480_0;replace hx480_1:=(HB.out.cell (World.block_lt_of_cell? w _ hx480_1)).trans hx480_1;replace p480:=eq_true p480;replace q480:=eq_true q480
           refine start_ (n:=7) (S:=fun w'=>w'.cell? ⟨gb475,0,none⟩ = some (.string a0_0) ∧ w'.cell? ⟨gb475,1,none⟩ = some (.string a0_1) ∧ w'.cell? (ad480.add ((x6_2).toNat * 2)) = some (.string ((rd_T25 l1 x6_2).f0)) ∧ w'.cell? ⟨(ad480.add ((x6_2).toNat * 2)).block,(ad480.add ((x6_2).toNat * 2)).off + 1,none⟩ = some (.string ((rd_T25 l1 x6_2).f1))) (ds:=[]) #[fF,fF,fF,fF,fF,fF,fF] (by kernel_rfl) rfl rfl ⟨(blk_cell BK475.out 0).trans rfl,(blk_cell BK475.out 1).trans rfl,((HB.out.cell (World.block_lt_of_cell? w _ hw480_0)).trans hw480_0),((HB.out.cell (World.block_lt_of_cell? w _ hw480_1)).trans hw480_1)⟩ (fun hHeld=>?_)
           generalize wr.drew = w22 at BK475 HB hx480_0 hx480_1 hHeld ⊢
           refine pure_ (i:=1) (N:=some 32) (v:=?_) (a':=?_) #[fF,tT,fF,fF,fF,fF,fF] rfl rfl (by kernel_rfl) (fun _ _ _ h=>h) (Or.inl ⟨by rfl,?_⟩) ?_ ?_
           rotate_left
           ·intro w'
            go_simp
            with_reducible rfl
           rotate_left
           ·simp only [Act.put,sI,sZ,sS,i64_w,i32_w]
            rfl
           refine pure_ (i:=2) (N:=some 33) (v:=?_) (a':=?_) #[fF,tT,tT,fF,fF,fF,fF] rfl rfl (by kernel_rfl) (fun _ _ _ h=>h) (Or.inl ⟨by rfl,?_⟩) ?_ ?_
           rotate_left
           ·intro w'
            go_simp
            with_reducible rfl
           rotate_left
           ·simp only [Act.put,sI,sZ,sS,i64_w,i32_w]
            rfl
           refine pure_ (i:=3) (N:=some 34) (v:=?_) (a':=?_) #[fF,tT,tT,tT,fF,fF,fF] rfl rfl (by kernel_rfl) (fun _ _ _ h=>h) (Or.inl ⟨by rfl,?_⟩) ?_ ?_
           rotate_left
           ·intro w'
            go_simp
            with_reducible rfl
           rotate_left
           ·simp only [Act.put,sI,sZ,sS,i64_w,i32_w]
            rfl
           refine take_ (i:=0) (N:=some 31) (v:=?_) (a':=?_) #[tT,tT,tT,tT,fF,fF,fF] rfl rfl (by kernel_rfl) (fun _ _ _ h=>h) (Or.inl ⟨by rfl,?_⟩) hHeld ?_ ?_
           rotate_left
           ·rintro w' ⟨s0,s1,s2,s3⟩
            go_simp
            with_reducible rfl
           rotate_left
           ·simp only [Act.put,sI,sZ,sS,i64_w,i32_w]
            rfl
           refine take_ (i:=4) (N:=some 35) (v:=?_) (a':=?_) #[tT,tT,tT,tT,tT,fF,fF] rfl rfl (by kernel_rfl) (fun _ _ _ h=>h) (Or.inl ⟨by rfl,?_⟩) hHeld ?_ ?_
           rotate_left
           ·rintro w' ⟨s0,s1,s2,s3⟩
            go_simp
            with_reducible rfl
           rotate_left
           ·simp only [Act.put,sI,sZ,sS,i64_w,i32_w]
            rfl
           refine one_ (i:=5) (N:=some 36) #[tT,tT,tT,tT,tT,tT,fF] rfl rfl (by kernel_rfl) (by decide) (fun K hK=>?_)
           refine goes_ Try.func25 (by kernel_rfl) rfl #[.agg #[.string a0_0,.string a0_1],.agg #[.string ((rd_T25 l1 x6_2).f0),.string ((rd_T25 l1 x6_2).f1)]] (by rfl) rfl rfl (by (try simp only [sM,sC,sN]);first|done|rfl) ?_
           with_reducible refine (spec_l06Point.calls k2 a0_0 a0_1 ((rd_T25 l1 x6_2).f0) ((rd_T25 l1 x6_2).f1) true _ A20.out).mono ?_
           rintro e w23 ⟨rfl,hb⟩
           refine ⟨_,rfl,?_⟩
           replace BK475:=kb BK475 hb;replace HB:=bs HB hb;(try clear hb)
           refine hK.out _ _ ⟨(blk_cell BK475.out 0).trans rfl,(blk_cell BK475.out 1).trans rfl,((HB.out.cell (World.block_lt_of_cell? w _ hw480_0)).trans hw480_0),((HB.out.cell (World.block_lt_of_cell? w _ hw480_1)).trans hw480_1)⟩ (fun hHeld=>?_)
           clear hK K
           refine norm_ (a':=_) (by show Act.put _ _ _=_;simp only [Act.put,sI,sZ,sS,i64_w,i32_w];rfl) ?_
           refine pure_ (i:=6) (N:=some 37) (v:=?_) (a':=?_) #[tT,tT,tT,tT,tT,tT,tT] rfl rfl (by kernel_rfl) (fun _ _ _ h=>h) (Or.inl ⟨by rfl,?_⟩) ?_ ?_
           rotate_left
           ·intro w'
            go_simp
            with_reducible rfl
           rotate_left
           ·simp only [Act.put,sI,sZ,sS,i64_w,i32_w]
            rfl
           refine done_ (by kernel_rfl) ?_
           try go_wp2
           go_roundg k2
           case measure=>have:=HK1.out;have:=HK2.out;omega
           case rel=>exact ⟨(wrap64 (x6_2 + 1)),(by first|rfl|(simp;done)|(simp [*];done)),H',⟨by have:=HK1.out;have:=HK2.out;omega⟩,⟨bk BK475⟩,⟨bb HB⟩⟩
          ·replace c21:=Bool.eq_false_iff.mpr c21
           subst c21
           have H1:(some 5) = some r:=by rw [if_neg (show ¬ (false = true) by decide)] at H;exact H
           clear H
           have H:=H1
           clear H1
           obtain rfl:=Option.some.inj H
           try go_wp2
           replace BK475:=aM (yD BK475.out);replace HB:=aM (zD HB.out)
           have p480:0 ≤ (x6_2:Int):=of_decide_eq_true (by assumption)
           have q480:x6_2 < (l1.length:Int):=of_decide_eq_true (by assumption)
           obtain ⟨ad480,e480,hx480_0,hx480_1⟩:=at_T25 HR1.out x6_2 p480 q480
           have hw480_1:=hx480_1
           have hw480_0:=hx480_0
           cases e480
           replace hx480_0:=(HB.out.cell (World.block_lt_of_cell? w _ hx480_0)).trans hx480_0;replace hx480_1:=(HB.out.cell (World.block_lt_of_cell? w _ hx480_1)).trans hx480_1;replace p480:=eq_true p480;replace q480:=eq_true q480
           refine start_ (n:=7) (S:=fun w'=>w'.cell? ⟨gb475,0,none⟩ = some (.string a0_0) ∧ w'.cell? ⟨gb475,1,none⟩ = some (.string a0_1) ∧ w'.cell? (ad480.add ((x6_2).toNat * 2)) = some (.string ((rd_T25 l1 x6_2).f0)) ∧ w'.cell? ⟨(ad480.add ((x6_2).toNat * 2)).block,(ad480.add ((x6_2).toNat * 2)).off + 1,none⟩ = some (.string ((rd_T25 l1 x6_2).f1))) (ds:=[]) #[fF,fF,fF,fF,fF,fF,fF] (by kernel_rfl) rfl rfl ⟨(blk_cell BK475.out 0).trans rfl,(blk_cell BK475.out 1).trans rfl,((HB.out.cell (World.block_lt_of_cell? w _ hw480_0)).trans hw480_0),((HB.out.cell (World.block_lt_of_cell? w _ hw480_1)).trans hw480_1)⟩ (fun hHeld=>?_)
           generalize wr.drew = w24 at BK475 HB hx480_0 hx480_1 hHeld ⊢
           refine pure_ (i:=1) (N:=some 32) (v:=?_) (a':=?_) #[fF,tT,fF,fF,fF,fF,fF] rfl rfl (by kernel_rfl) (fun _ _ _ h=>h) (Or.inl ⟨by rfl,?_⟩) ?_ ?_
           rotate_left
           ·intro w'
            go_simp
            with_reducible rfl
           rotate_left
           ·simp only [Act.put,sI,sZ,sS,i64_w,i32_w]
            rfl
           refine pure_ (i:=2) (N:=some 33) (v:=?_) (a':=?_) #[fF,tT,tT,fF,fF,fF,fF] rfl rfl (by kernel_rfl) (fun _ _ _ h=>h) (Or.inl ⟨by rfl,?_⟩) ?_ ?_
           rotate_left
           ·intro w'
            go_simp
            with_reducible rfl
           rotate_left
           ·simp only [Act.put,sI,sZ,sS,i64_w,i32_w]
            rfl
           refine pure_ (i:=3) (N:=some 34) (v:=?_) (a':=?_) #[fF,tT,tT,tT,fF,fF,fF] rfl rfl (by kernel_rfl) (fun _ _ _ h=>h) (Or.inl ⟨by rfl,?_⟩) ?_ ?_
           rotate_left
           ·intro w'
            go_simp
            with_reducible rfl
           rotate_left
           ·simp only [Act.put,sI,sZ,sS,i64_w,i32_w]
            rfl
           refine take_ (i:=0) (N:=some 31) (v:=?_) (a':=?_) #[tT,tT,tT,tT,fF,fF,fF] rfl rfl (by kernel_rfl) (fun _ _ _ h=>h) (Or.inl ⟨by rfl,?_⟩) hHeld ?_ ?_
           rotate_left
           ·rintro w' ⟨s0,s1,s2,s3⟩
            go_simp
            with_reducible rfl
           rotate_left
           ·simp only [Act.put,sI,sZ,sS,i64_w,i32_w]
            rfl
           refine take_ (i:=4) (N:=some 35) (v:=?_) (a':=?_) #[tT,tT,tT,tT,tT,fF,fF] rfl rfl (by kernel_rfl) (fun _ _ _ h=>h) (Or.inl ⟨by rfl,?_⟩) hHeld ?_ ?_
           rotate_left
           ·rintro w' ⟨s0,s1,s2,s3⟩
            go_simp
            with_reducible rfl
           rotate_left
           ·simp only [Act.put,sI,sZ,sS,i64_w,i32_w]
            rfl
           refine one_ (i:=5) (N:=some 36) #[tT,tT,tT,tT,tT,tT,fF] rfl rfl (by kernel_rfl) (by decide) (fun K hK=>?_)
           refine goes_ Try.func25 (by kernel_rfl) rfl #[.agg #[.string a0_0,.string a0_1],.agg #[.string ((rd_T25 l1 x6_2).f0),.string ((rd_T25 l1 x6_2).f1)]] (by rfl) rfl rfl (by (try simp only [sM,sC,sN]);first|done|rfl) ?_
           with_reducible refine (spec_l06Point.calls k2 a0_0 a0_1 ((rd_T25 l1 x6_2).f0) ((rd_T25 l1 x6_2).f1) false _ A20.out).mono ?_
           rintro e w25 ⟨rfl,hb⟩
           refine ⟨_,rfl,?_⟩
           replace BK475:=kb BK475 hb;replace HB:=bs HB hb;(try clear hb)
           refine hK.out _ _ ⟨(blk_cell BK475.out 0).trans rfl,(blk_cell BK475.out 1).trans rfl,((HB.out.cell (World.block_lt_of_cell? w _ hw480_0)).trans hw480_0),((HB.out.cell (World.block_lt_of_cell? w _ hw480_1)).trans hw480_1)⟩ (fun hHeld=>?_)
           clear hK K
           refine norm_ (a':=_) (by show Act.put _ _ _=_;simp only [Act.put,sI,sZ,sS,i64_w,i32_w];rfl) ?_
           refine pure_ (i:=6) (N:=some 37) (v:=?_) (a':=?_) #[tT,tT,tT,tT,tT,tT,tT] rfl rfl (by kernel_rfl) (fun _ _ _ h=>h) (Or.inl ⟨by rfl,?_⟩) ?_ ?_
           rotate_left
           ·intro w'
            go_simp
            with_reducible rfl
           rotate_left
           ·simp only [Act.put,sI,sZ,sS,i64_w,i32_w]
            rfl
           refine done_ (by kernel_rfl) ?_
           try go_wp2
           go_ret
           exact ⟨rfl,bb HB⟩
         ·rw [if_neg c19] at H
          exact absurd H (by simp)
        ·rw [if_neg c18] at H
         have c18b0:decide (x6_2 < (l1.length:Int)) = false:=decide_eq_false c18
         clear c18
         obtain rfl:=Option.some.inj H
         go_wp2
         go_ret
         exact ⟨rfl,bb HB⟩
     ·replace c15:=Bool.eq_false_iff.mpr c15
      subst c15
      have H1:(some 5) = some r:=by rw [if_neg (show ¬ (false = true) by decide)] at H;exact H
      clear H
      have H:=H1
      clear H1
      obtain rfl:=Option.some.inj H
      have⟨a0,a1,b0,b1⟩:=q2f BK475
      go_wp2_with (first|((with_reducible refine gate_callee (f:=24) rfl ?_);refine goesL_ (some 23) rfl rfl Try.func24 (by kernel_rfl) rfl #[.agg #[.string a0_0,.string a0_1]] rfl (by (try simp only [sM,sC,sN]);first|done|rfl) ?_;(with_reducible refine (spec_l02Star.calls k1 a0_0 a0_1 false _ A14.out).mono ?_);rintro e w27 ⟨rfl,hb⟩;refine ⟨_,rfl,?_⟩;replace BK475:=kb BK475 hb;replace HB:=bs HB hb;(try clear hb)))
      go_ret
      exact ⟨rfl,bb HB⟩
 ·replace c4:=Bool.eq_false_iff.mpr c4
  subst c4
  have H1:(some 1) = some r:=by rw [if_neg (show ¬ (false = true) by decide)] at H;exact H
  clear H
  have H:=H1
  clear H1
  obtain rfl:=Option.some.inj H
  go_enter Try.func28,Try.ntmps28
  go_wp2_with (first|((with_reducible refine gate_dst (N:=2) rfl ?_);refine box_event rfl (N:=2) rfl (cs:=#[.string a0_0,.string a0_1]) (t:=25) (by first|(go_simp;done)|(go_simp;rfl)) ?_;intro gb475 hg w28 hbox hb;have BK475:=aM (hbox);have GW475:=wl hg HB;have GE475:=wl hg HB;replace HB:=bs HB hb;clear hb hbox hg;have⟨a0,a1,b0,b1⟩:=q2f BK475)|((with_reducible refine gate_callee (f:=23) rfl ?_);refine goesL_ (some 8) rfl rfl Try.func23 (by kernel_rfl) rfl #[.agg #[.string a0_0,.string a0_1]] rfl (by (try simp only [sM,sC,sN]);first|done|rfl) ?_;(with_reducible refine (spec_l01Seq.calls k a0_0 a0_1 false _ A3.out).mono ?_);rintro e w30 ⟨rfl,hb⟩;refine ⟨_,rfl,?_⟩;replace BK475:=kb BK475 hb;replace HB:=bs HB hb;(try clear hb)))
  go_ret
  exact ⟨rfl,bb HB⟩
set_option maxHeartbeats 1000000 in
theorem indexFunc_Sequence.calls (g:Nat) (lb:Array Value) (eg:∀ args w,(callFunc g args).run Try.prog w = .ok (.enter g args) w) (p:S25 → Option Bool) (A0:Option Addr) (c0:Nat) (l0:List S25) (r:Int) (w:World)
  (hr0:Kd.C k25 w A0 l0.length l0) (hc0:l0.length ≤ c0)
  (hp:∀ W x b,Below w.heap.size w W → p x = some b → Calls Try.prog g (#[.agg #[.string x.f0,.string x.f1]] ++ lb) W fun e w'=>e = .returned (.bool b) ∧ Below W.heap.size W w')
  (h:idxGo p 0 l0 = some r) :
  Calls Try.prog 74 #[.slice A0 l0.length c0,.func (.func g) #[] lb] w fun e w'=>e = .returned (.int .i64 r) ∧ Below w.heap.size w w':=by
 have hm:=Kd.C_max hr0
 have HR:=aM hr0;have H0:=aM h;have HP:=aM hp
 clear hr0 h hp
 go_enter Try.func74,Try.ntmps74
 go_wp2
 go_loopg [8] l0.length (fun gg i wr=>∃ k:Nat,k ≤ l0.length ∧ l0.length - k ≤ gg ∧ i = .int .i64 k ∧ Aside0 (idxGo p k (l0.drop k) = some r) ∧ Aside0 (Below w.heap.size w wr))
 case atStart=>exact ⟨0,Nat.zero_le _,by omega,rfl,aM (by simpa using H0.out),aM (Below.refl _ _)⟩
 case round =>
  obtain ⟨k,hk,hg,rfl,HJ,HB⟩:=hrel
  clear H0
  by_cases hlt:k < l0.length
  ·have hlti:(k:Int) < (l0.length:Int):=by omega
   obtain ⟨b,hb,hstep⟩:=idxGo_drop p l0 k k r hlt HJ.out
   obtain ⟨ad,e,e0,e1⟩:=at_T25 (Kd.C_below HR.out HB.out) (k:Int) (by omega) hlti
   have hx:rd_T25 l0 (k:Int) = l0[k]:=by simp [rd_T25,hlt]
   rw [hx] at e0 e1
   simp only [Int.toNat_natCast] at e0 e1
   generalize l0[k] = x at hb e0 e1
   have hcall:=HP.out wr x b HB.out hb
   subst e
   rcases hstep with ⟨rfl,rfl⟩|⟨rfl,hj⟩
   ·have HC:=aM hcall
    have HB1:=HB.out
    clear hcall hb hx HP HJ
    go_wp2_with (go_at_fn g;refine HC.out.mono ?_;rintro e w' ⟨rfl,hb'⟩)
    go_ret
    exact ⟨rfl,HB1.trans (hb'.mono HB1.size)⟩
   ·have HC:=aM hcall
    have HJ2:=aM hj
    clear hcall hb hx hj
    go_wp2_with (go_at_fn g;refine HC.out.mono ?_;rintro e w' ⟨rfl,hb'⟩)
    go_roundg (l0.length - (k + 1))
    case measure=>omega
    case rel=>exact ⟨k + 1,by omega,by omega,by go_num,⟨by simpa using HJ2.out⟩,⟨HB.out.trans (hb'.mono HB.out.size)⟩⟩
  ·have hlti:¬ (k:Int) < (l0.length:Int):=by omega
   have hr:r = -1:=idxGo_end p l0 k k r (by omega) HJ.out
   have HR1:=aM hr
   have HB1:=HB.out
   clear hr HP HJ
   go_wp2
   go_ret
   exact ⟨by rw [HR1.out];rfl,HB1⟩
set_option maxHeartbeats 1000000 in
theorem containsFunc_Sequence.calls (g:Nat) (lb:Array Value) (eg:∀ args w,(callFunc g args).run Try.prog w = .ok (.enter g args) w) (p:S25 → Option Bool) (A0:Option Addr) (c0:Nat) (l0:List S25) (r:Int) (w:World)
  (hr0:Kd.C k25 w A0 l0.length l0) (hc0:l0.length ≤ c0)
  (hp:∀ W x b,Below w.heap.size w W → p x = some b → Calls Try.prog g (#[.agg #[.string x.f0,.string x.f1]] ++ lb) W fun e w'=>e = .returned (.bool b) ∧ Below W.heap.size W w')
  (h:idxGo p 0 l0 = some r) :
  Calls Try.prog 67 #[.slice A0 l0.length c0,.func (.func g) #[] lb] w fun e w'=>e = .returned (.bool (decide (0 ≤ r))) ∧ Below w.heap.size w w':=by
 have hcon:=indexFunc_Sequence.calls g lb eg p A0 c0 l0 r w hr0 hc0 hp h
 have HC:=aM hcon
 clear hcon hp h hr0
 go_enter Try.func67,Try.ntmps67
 go_wp2_with (go_at_call 74;refine HC.out.mono ?_;rintro e w' ⟨rfl,hb'⟩)
 go_ret
 exact ⟨rfl,hb'⟩
set_option maxHeartbeats 1000000 in
theorem notIs_Sequence.calls (g:Nat) (eg:∀ args w,(callFunc g args).run Try.prog w = .ok (.enter g args) w) (B:Nat) (w:World) (hcell:w.cell? ⟨B,0,none⟩ = some (.func (.func g) #[] #[])) (hB:B < w.heap.size) (x:S25) (b:Bool)
  (hp:∀ W,Below w.heap.size w W → Calls Try.prog g #[.agg #[.string x.f0,.string x.f1]] W fun e w'=>e = .returned (.bool b) ∧ Below W.heap.size W w') :
  Calls Try.prog 68 #[.agg #[.string x.f0,.string x.f1],.pointer (some ⟨B,0,none⟩)] w fun e w'=>e = .returned (.bool (!b)) ∧ Below w.heap.size w w':=by
 have HP:=aM hp
 have hu:=Try.underlying25
 clear hp
 go_enter Try.func68,Try.ntmps68
 go_wp2_with (go_at_fn g;refine (HP.out _ ((Below.refl _ _).alloc (Nat.le_refl _) _)).mono ?_;rintro e w' ⟨rfl,hb'⟩)
 go_ret
 exact ⟨rfl,((Below.refl _ w).alloc (Nat.le_refl _) _).trans (hb'.mono (by simp))⟩
set_option maxHeartbeats 1000000 in
theorem areAll_Sequence.calls (g:Nat) (eg:∀ args w,(callFunc g args).run Try.prog w = .ok (.enter g args) w) (p:S25 → Option Bool) (A0:Option Addr) (c0:Nat) (l0:List S25) (r:Bool) (w:World)
  (hr0:Kd.C k25 w A0 l0.length l0) (hc0:l0.length ≤ c0)
  (hp:∀ W x b,Below w.heap.size w W → p x = some b → Calls Try.prog g #[.agg #[.string x.f0,.string x.f1]] W fun e w'=>e = .returned (.bool b) ∧ Below W.heap.size W w')
  (h:allM p l0 = some r) :
  Calls Try.prog 50 #[.slice A0 l0.length c0,.func (.func g) #[] #[]] w fun e w'=>e = .returned (.bool r) ∧ Below w.heap.size w w':=by
 obtain ⟨i,h1,h2⟩:=allM_idx p l0 0 r (by omega) h
 have hw1:Below w.heap.size w (w.alloc (.cells #[.func (.func g) #[] #[]] 44)):=(Below.refl _ w).alloc (Nat.le_refl _) _
 have hcon:=containsFunc_Sequence.calls 68 #[.pointer (some ⟨w.heap.size,0,none⟩)] (enters_of Try.func68 (by kernel_rfl) rfl)
  (fun x=>(p x).map (fun b=>!b)) A0 c0 l0 i (w.alloc (.cells #[.func (.func g) #[] #[]] 44)) (Kd.C_below hr0 hw1) hc0
  (fun W x b hW hx=>by
   obtain ⟨q,hq,rfl⟩:=Option.map_eq_some_iff.1 hx
   have hcell:W.cell? ⟨w.heap.size,0,none⟩ = some (.func (.func g) #[] #[]):=(hW.cell (p:=⟨w.heap.size,0,none⟩) (by simp)).trans (by simp)
   exact notIs_Sequence.calls g eg w.heap.size W hcell (by have:=hW.size;simp at this;omega) x q (fun W' hW'=>hp W' x q (hw1.trans ((hW.mono (by simp)).trans (hW'.mono (by have:=hW.size;simp at this;omega)))) hq)) h1
 have HC:=aM hcon;have H2:=aM h2
 clear hcon hp h hr0 h1 h2
 go_enter Try.func50,Try.ntmps50
 go_wp2_with (go_at_call 67;refine HC.out.mono ?_;rintro e w' ⟨rfl,hb'⟩)
 go_ret
 exact ⟨by rw [H2.out];simp,hw1.trans (hb'.mono (by simp))⟩
set_option maxHeartbeats 1000000 in
theorem notIsB_Sequence.calls (g:Nat) (pre:Value) (eg:∀ args w,(callFunc g args).run Try.prog w = .ok (.enter g args) w) (B:Nat) (w:World) (hcell:w.cell? ⟨B,0,none⟩ = some (.func (.func g) #[pre] #[])) (hB:B < w.heap.size) (x:S25) (b:Bool)
  (hp:∀ W,Below w.heap.size w W → Calls Try.prog g #[pre,.agg #[.string x.f0,.string x.f1]] W fun e w'=>e = .returned (.bool b) ∧ Below W.heap.size W w') :
  Calls Try.prog 68 #[.agg #[.string x.f0,.string x.f1],.pointer (some ⟨B,0,none⟩)] w fun e w'=>e = .returned (.bool (!b)) ∧ Below w.heap.size w w':=by
 have HP:=aM hp
 have hu:=Try.underlying25
 clear hp
 go_enter Try.func68,Try.ntmps68
 go_wp2_with (go_at_fn g;refine (HP.out _ ((Below.refl _ _).alloc (Nat.le_refl _) _)).mono ?_;rintro e w' ⟨rfl,hb'⟩)
 go_ret
 exact ⟨rfl,((Below.refl _ w).alloc (Nat.le_refl _) _).trans (hb'.mono (by simp))⟩
set_option maxHeartbeats 1000000 in
theorem areAllB_Sequence.calls (g:Nat) (pre:Value) (eg:∀ args w,(callFunc g args).run Try.prog w = .ok (.enter g args) w) (p:S25 → Option Bool) (A0:Option Addr) (c0:Nat) (l0:List S25) (r:Bool) (w:World)
  (hr0:Kd.C k25 w A0 l0.length l0) (hc0:l0.length ≤ c0)
  (hp:∀ W x b,Below w.heap.size w W → p x = some b → Calls Try.prog g #[pre,.agg #[.string x.f0,.string x.f1]] W fun e w'=>e = .returned (.bool b) ∧ Below W.heap.size W w')
  (h:allM p l0 = some r) :
  Calls Try.prog 50 #[.slice A0 l0.length c0,.func (.func g) #[pre] #[]] w fun e w'=>e = .returned (.bool r) ∧ Below w.heap.size w w':=by
 obtain ⟨i,h1,h2⟩:=allM_idx p l0 0 r (by omega) h
 have hw1:Below w.heap.size w (w.alloc (.cells #[.func (.func g) #[pre] #[]] 44)):=(Below.refl _ w).alloc (Nat.le_refl _) _
 have hcon:=containsFunc_Sequence.calls 68 #[.pointer (some ⟨w.heap.size,0,none⟩)] (enters_of Try.func68 (by kernel_rfl) rfl)
  (fun x=>(p x).map (fun b=>!b)) A0 c0 l0 i (w.alloc (.cells #[.func (.func g) #[pre] #[]] 44)) (Kd.C_below hr0 hw1) hc0
  (fun W x b hW hx=>by
   obtain ⟨q,hq,rfl⟩:=Option.map_eq_some_iff.1 hx
   have hcell:W.cell? ⟨w.heap.size,0,none⟩ = some (.func (.func g) #[pre] #[]):=(hW.cell (p:=⟨w.heap.size,0,none⟩) (by simp)).trans (by simp)
   exact notIsB_Sequence.calls g pre eg w.heap.size W hcell (by have:=hW.size;simp at this;omega) x q (fun W' hW'=>hp W' x q (hw1.trans ((hW.mono (by simp)).trans (hW'.mono (by have:=hW.size;simp at this;omega)))) hq)) h1
 have HC:=aM hcon;have H2:=aM h2
 clear hcon hp h hr0 h1 h2
 go_enter Try.func50,Try.ntmps50
 go_wp2_with (go_at_call 67;refine HC.out.mono ?_;rintro e w' ⟨rfl,hb'⟩)
 go_ret
 exact ⟨by rw [H2.out];simp,hw1.trans (hb'.mono (by simp))⟩
def impl_starCode.f (k:Nat) (a0_0:ByteArray) (a0_1:ByteArray) (l1:List S25):Option Int :=
 (impl_IsSequence.f k a0_0 a0_1).bind fun s=>if s = true then ((allM (fun x=>impl_IsSequence.f k x.f0 x.f1) l1).bind fun q=>if q = true then ((impl_Sequence_isStar.f a0_0 a0_1).bind fun t=>if t = true then ((allM (fun x=>impl_Sequence_isPoint.f k a0_0 a0_1 x.f0 x.f1) l1).bind fun p=>some (if p = true then 0 else 5)) else some 5) else some 1) else some 1
theorem impl_starCode.mono:∀ a0 a1 a2 k,LeO (impl_starCode.f k a0 a1 a2) (impl_starCode.f (k + 1) a0 a1 a2):=by
 intro a b l k
 unfold impl_starCode.f
 refine LeO.bind (impl_IsSequence.mono _ _ k) (fun s=>?_)
 refine LeO.ite ?_ (LeO.refl _)
 refine LeO.bind (allM_mono (fun x=>impl_IsSequence.mono _ _ k) l) (fun q=>?_)
 refine LeO.ite ?_ (LeO.refl _)
 refine LeO.bind (LeO.refl _) (fun t=>?_)
 refine LeO.ite ?_ (LeO.refl _)
 exact LeO.bind (allM_mono (fun x=>impl_Sequence_isPoint.mono _ _ _ _ k) l) (fun p=>LeO.refl _)
set_option maxHeartbeats 2000000 in
theorem impl_starCode.calls (k:Nat) (a0_0:ByteArray) (a0_1:ByteArray) (A1:Option Addr) (c1:Nat) (l1:List S25) (r:Int) (w:World) (hr1:Kd.C k25 w A1 l1.length l1) (hc1:l1.length ≤ c1) (h:impl_starCode.f k a0_0 a0_1 l1 = some r) :
  Calls Try.prog 26 #[.agg #[.string a0_0,.string a0_1],.slice A1 l1.length c1] w fun e w'=>e = .returned (.int .i64 r) ∧ Below w.heap.size w w':=by
 unfold impl_starCode.f at h
 obtain ⟨s,hs,h⟩:=Option.bind_eq_some_iff.1 h
 have hu:=Try.underlying25
 have cS:∀ W,Calls Try.prog 20 #[.agg #[.string a0_0,.string a0_1]] W fun e w'=>e = .returned (.bool s) ∧ Below W.heap.size W w' :=
  fun W=>(impl_IsSequence.calls k _ _ s W hs).mono fun e w' ⟨he,hd⟩=>⟨he,by first|exact hd|exact hd.below⟩
 have CS:=aM cS;have HR1:=aM hr1
 clear cS hs hr1
 cases s with
 | false =>
  have hr:=Option.some.inj h
  subst hr
  clear h
  go_enter Try.func26,Try.ntmps26
  go_wp2_with (go_at_call 20;refine (CS.out _).mono ?_;rintro e w' ⟨rfl,hb'⟩)
  go_ret
  exact ⟨rfl,((Below.refl _ w).alloc (Nat.le_refl _) _).trans (hb'.mono (by simp))⟩
 | true =>
  simp only [if_true] at h
  obtain ⟨q,hq,h⟩:=Option.bind_eq_some_iff.1 h
  have cQ:∀ W,Below w.heap.size w W → Calls Try.prog 50 #[.slice A1 l1.length c1,.func (.func 20) #[] #[]] W fun e w'=>e = .returned (.bool q) ∧ Below W.heap.size W w' :=
   fun W hW=>areAll_Sequence.calls 20 (enters_of Try.func20 (by kernel_rfl) rfl) (fun x:S25=>impl_IsSequence.f k x.f0 x.f1) A1 c1 l1 q W (Kd.C_below HR1.out hW) hc1
    (fun W x b _ hx=>(impl_IsSequence.calls k _ _ b W hx).mono fun e w' ⟨he,hd⟩=>⟨he,by first|exact hd|exact hd.below⟩) hq
  have CQ:=aM cQ
  clear cQ hq
  have first_:∀ {W1 wA:World},W1 = w.alloc (.cells #[.string a0_0,.string a0_1] 25) → Below W1.heap.size W1 wA → Below w.heap.size w wA ∧ w.heap.size < wA.heap.size ∧ wA.cell? ⟨w.heap.size,0,none⟩ = some (.string a0_0) ∧ wA.cell? ⟨w.heap.size,1,none⟩ = some (.string a0_1):=by
   rintro W1 wA rfl hb
   have hs:=hb.size
   simp at hs
   exact ⟨((Below.refl _ w).alloc (Nat.le_refl _) _).trans (hb.mono (by simp)),by omega,(hb.cell (p:=⟨w.heap.size,0,none⟩) (by simp)).trans (by simp),(hb.cell (p:=⟨w.heap.size,1,none⟩) (by simp)).trans (by simp)⟩
  have next_:∀ {wA wB:World},Below w.heap.size w wA ∧ w.heap.size < wA.heap.size ∧ wA.cell? ⟨w.heap.size,0,none⟩ = some (.string a0_0) ∧ wA.cell? ⟨w.heap.size,1,none⟩ = some (.string a0_1) → Below wA.heap.size wA wB → Below w.heap.size w wB ∧ w.heap.size < wB.heap.size ∧ wB.cell? ⟨w.heap.size,0,none⟩ = some (.string a0_0) ∧ wB.cell? ⟨w.heap.size,1,none⟩ = some (.string a0_1):=by
   rintro wA wB ⟨h1,h2,h3,h4⟩ hb
   have hs:=hb.size
   exact ⟨h1.trans (hb.mono h1.size),by omega,(hb.cell (p:=⟨w.heap.size,0,none⟩) h2).trans h3,(hb.cell (p:=⟨w.heap.size,1,none⟩) h2).trans h4⟩
  cases q with
  | false =>
   have hr:=Option.some.inj h
   subst hr
   clear h
   go_enter Try.func26,Try.ntmps26
   go_wp2_with (go_at_call 20;refine (CS.out _).mono ?_)
   rintro e wA ⟨rfl,hb'⟩
   obtain ⟨hA,hA1,hA2,hA3⟩:=first_ rfl hb'
   clear hb'
   go_wp2_with (go_at_call 50;refine (CQ.out _ hA).mono ?_)
   rintro e wB ⟨rfl,hb'⟩
   have hB:=hA.trans (hb'.mono hA.size)
   clear hb'
   go_wp2
   go_ret
   exact ⟨rfl,hB⟩
  | true =>
   simp only [if_true] at h
   obtain ⟨t,ht,h⟩:=Option.bind_eq_some_iff.1 h
   have cT:∀ W,Calls Try.prog 21 #[.agg #[.string a0_0,.string a0_1]] W fun e w'=>e = .returned (.bool t) ∧ Below W.heap.size W w' :=
    fun W=>(impl_Sequence_isStar.calls _ _ t W ht).mono fun e w' ⟨he,hd⟩=>⟨he,by first|exact hd|exact hd.below⟩
   have CT:=aM cT
   clear cT ht
   cases t with
   | false =>
    have hr:=Option.some.inj h
    subst hr
    clear h
    go_enter Try.func26,Try.ntmps26
    go_wp2_with (go_at_call 20;refine (CS.out _).mono ?_)
    rintro e wA ⟨rfl,hb'⟩
    obtain ⟨hA,hA1,hA2,hA3⟩:=first_ rfl hb'
    clear hb'
    go_wp2_with (go_at_call 50;refine (CQ.out _ hA).mono ?_)
    rintro e wB ⟨rfl,hb'⟩
    obtain ⟨hB,hB1,hB2,hB3⟩:=next_ ⟨hA,hA1,hA2,hA3⟩ hb'
    clear hb' hA hA1 hA2 hA3
    go_wp2_with (go_at_call 21;refine (CT.out _).mono ?_)
    rintro e wC ⟨rfl,hb'⟩
    have hC:=hB.trans (hb'.mono hB.size)
    clear hb'
    go_wp2
    go_ret
    exact ⟨rfl,hC⟩
   | true =>
    simp only [if_true] at h
    obtain ⟨p,hp,h⟩:=Option.bind_eq_some_iff.1 h
    have cP:∀ W,Below w.heap.size w W → Calls Try.prog 50 #[.slice A1 l1.length c1,.func (.func 22) #[.agg #[.string a0_0,.string a0_1]] #[]] W fun e w'=>e = .returned (.bool p) ∧ Below W.heap.size W w' :=
     fun W hW=>areAllB_Sequence.calls 22 (.agg #[.string a0_0,.string a0_1]) (enters_of Try.func22 (by kernel_rfl) rfl) (fun x:S25=>impl_Sequence_isPoint.f k a0_0 a0_1 x.f0 x.f1) A1 c1 l1 p W (Kd.C_below HR1.out hW) hc1
      (fun W x b _ hx=>(impl_Sequence_isPoint.calls k _ _ _ _ b W hx).mono fun e w' ⟨he,hd⟩=>⟨he,by first|exact hd|exact hd.below⟩) hp
    have CP:=aM cP
    have hr:=Option.some.inj h
    clear cP hp h
    cases p with
    | false =>
     obtain rfl:(5:Int) = r:=by simpa using hr
     clear hr
     go_enter Try.func26,Try.ntmps26
     go_wp2_with (go_at_call 20;refine (CS.out _).mono ?_)
     rintro e wA ⟨rfl,hb'⟩
     obtain ⟨hA,hA1,hA2,hA3⟩:=first_ rfl hb'
     clear hb'
     go_wp2_with (go_at_call 50;refine (CQ.out _ hA).mono ?_)
     rintro e wB ⟨rfl,hb'⟩
     obtain ⟨hB,hB1,hB2,hB3⟩:=next_ ⟨hA,hA1,hA2,hA3⟩ hb'
     clear hb' hA hA1 hA2 hA3
     go_wp2_with (go_at_call 21;refine (CT.out _).mono ?_)
     rintro e wC ⟨rfl,hb'⟩
     obtain ⟨hC,hC1,hC2,hC3⟩:=next_ ⟨hB,hB1,hB2,hB3⟩ hb'
     clear hb' hB hB1 hB2 hB3
     go_wp2_with (go_at_call 50;refine (CP.out _ hC).mono ?_)
     rintro e wD ⟨rfl,hb'⟩
     have hD:=hC.trans (hb'.mono hC.size)
     clear hb'
     go_wp2
     go_ret
     exact ⟨rfl,hD⟩
    | true =>
     obtain rfl:(0:Int) = r:=by simpa using hr
     clear hr
     go_enter Try.func26,Try.ntmps26
     go_wp2_with (go_at_call 20;refine (CS.out _).mono ?_)
     rintro e wA ⟨rfl,hb'⟩
     obtain ⟨hA,hA1,hA2,hA3⟩:=first_ rfl hb'
     clear hb'
     go_wp2_with (go_at_call 50;refine (CQ.out _ hA).mono ?_)
     rintro e wB ⟨rfl,hb'⟩
     obtain ⟨hB,hB1,hB2,hB3⟩:=next_ ⟨hA,hA1,hA2,hA3⟩ hb'
     clear hb' hA hA1 hA2 hA3
     go_wp2_with (go_at_call 21;refine (CT.out _).mono ?_)
     rintro e wC ⟨rfl,hb'⟩
     obtain ⟨hC,hC1,hC2,hC3⟩:=next_ ⟨hB,hB1,hB2,hB3⟩ hb'
     clear hb' hB hB1 hB2 hB3
     go_wp2_with (go_at_call 50;refine (CP.out _ hC).mono ?_)
     rintro e wD ⟨rfl,hb'⟩
     have hD:=hC.trans (hb'.mono hC.size)
     clear hb'
     go_wp2
     go_ret
     exact ⟨rfl,hD⟩
end Go.Proofs.Ytmhpbilkocnlnaa.Q
end
section
namespace Go.Proofs.Ytmhpbilkocnlnaa.Q
open Go.RowKit Go.Proofs.YtmhpbilkocnlnaaW.PrintWords Go.Proofs.YtmhpbilkocnlnaaW.PrintLast Go.Proofs.YtmhpbilkocnlnaaW.Ext
set_option linter.unusedVariables false
set_option linter.unusedSimpArgs false
abbrev SP := S25
def SP.pr (x : SP) : ByteArray × ByteArray := (x.f0, x.f1)
theorem val_of {a b : ByteArray} (h : lettersB a = true ∧ lettersB b = true ∧ 1 ≤ b.size ∧ a.size + b.size ≤ 64 ∧ Cn a b) : Val (a, b) := ⟨h.1, h.2.1, h.2.2.1, h.2.2.2.1, h.2.2.2.2⟩
theorem rd_sp (L : List SP) (j : Nat) (hj : j < L.length) : rd_T25 L (j : Int) = L[j] := by
  unfold rd_T25
  rw [Int.toNat_natCast, List.getD_eq_getElem?_getD, List.getElem?_eq_getElem hj]
  rfl
theorem code_seqs (v : ByteArray × ByteArray) (L : List SP) (hl : L.length ≤ 1000) (hL : ∀ x, x ∈ L → x.f0.size + x.f1.size ≤ 1048576) : ∀ d j, j + d = L.length →
    ∃ b : Bool, (∀ r, Ev (fun k => if b = true then ((spec_l02Star.f k v.1 v.2).bind fun t => if t = true then spec_l06Code.l1 k L 0 v.1 v.2 else some 5) else some 1) r → Ev (fun k => spec_l06Code.l0 k L (j : Int) v.1 v.2) r) ∧
      Ev (fun k => allM (fun x : SP => impl_IsSequence.f k x.f0 x.f1) (L.drop j)) b ∧ (b = true → ∀ x, x ∈ L.drop j → Val (SP.pr x) ∧ Ev (fun k => spec_l01Seq.f k x.f0 x.f1) true) := by
  intro d
  induction d with
  | zero =>
    intro j hj
    refine ⟨true, fun r hr => ?_, ?_, fun _ x hx => by rw [List.drop_of_length_le (by omega)] at hx; cases hx⟩
    · simp only [if_true] at hr
      exact Ev.step (fun k => by rw [spec_l06Code.l0, if_neg (by omega)]) hr
    · rw [List.drop_of_length_le (by omega)]
      exact Ev.now true
  | succ d ih =>
    intro j hj
    have hjl : j < L.length := by omega
    obtain ⟨q, q1, q2, q3⟩ := both_seq L[j].f0 L[j].f1 (hL _ (List.getElem_mem hjl))
    have e : L.drop j = L[j] :: L.drop (j + 1) := List.drop_eq_getElem_cons hjl
    obtain ⟨b, b1, b2, b3⟩ := ih (j + 1) (by omega)
    cases q with
    | false =>
      refine ⟨false, fun r hr => ?_, ?_, fun h => by cases h⟩
      · simp only [Bool.false_eq_true, if_false] at hr
        refine Ev.step (f := fun k => (spec_l01Seq.f k L[j].f0 L[j].f1).bind fun t => if t = true then spec_l06Code.l0 k L ((j + 1 : Nat) : Int) v.1 v.2 else some 1) (fun k => by rw [spec_l06Code.l0, if_pos (by omega), if_pos (by omega), rd_sp L j hjl, wrS (x := (j : Int) + 1) (by omega) (by omega)]; rfl) (Ev.bind q1 ?_)
        simp only [Bool.false_eq_true, if_false]
        exact hr
      · rw [e]
        refine Ev.bind q2 ?_
        simp only [Bool.false_eq_true, if_false]
        exact Ev.now _
    | true =>
      refine ⟨b, fun r hr => ?_, ?_, fun h x hx => ?_⟩
      · refine Ev.step (f := fun k => (spec_l01Seq.f k L[j].f0 L[j].f1).bind fun t => if t = true then spec_l06Code.l0 k L ((j + 1 : Nat) : Int) v.1 v.2 else some 1) (fun k => by rw [spec_l06Code.l0, if_pos (by omega), if_pos (by omega), rd_sp L j hjl, wrS (x := (j : Int) + 1) (by omega) (by omega)]; rfl) (Ev.bind q1 ?_)
        simp only [if_true]
        exact b1 r hr
      · rw [e]
        refine Ev.bind q2 ?_
        simp only [if_true]
        exact b2
      · rw [e] at hx
        rcases List.mem_cons.1 hx with rfl | hx
        · exact ⟨val_of (q3 rfl), q1⟩
        · exact b3 h x hx
theorem code_points (v : ByteArray × ByteArray) (L : List SP) (hl : L.length ≤ 1000) (hV : ∀ x, x ∈ L → Val (SP.pr x)) : ∀ d j, j + d = L.length →
    ∃ b : Bool, Ev (fun k => spec_l06Code.l1 k L (j : Int) v.1 v.2) (if b = true then 0 else 5) ∧ Ev (fun k => allM (fun x : SP => impl_Sequence_isPoint.f k v.1 v.2 x.f0 x.f1) (L.drop j)) b ∧ (b = true → ∀ x, x ∈ L.drop j → Pt v (SP.pr x)) := by
  intro d
  induction d with
  | zero =>
    intro j hj
    refine ⟨true, ?_, ?_, fun _ x hx => by rw [List.drop_of_length_le (by omega)] at hx; cases hx⟩
    · exact Ev.step (f := fun _ => some 0) (fun k => by rw [spec_l06Code.l1, if_neg (by omega)]) (Ev.now _)
    · rw [List.drop_of_length_le (by omega)]
      exact Ev.now true
  | succ d ih =>
    intro j hj
    have hjl : j < L.length := by omega
    have hx := hV _ (List.getElem_mem hjl)
    obtain ⟨q, q1, q2⟩ := both_point v.1 v.2 L[j].f0 L[j].f1 hx.one hx.le
    have e : L.drop j = L[j] :: L.drop (j + 1) := List.drop_eq_getElem_cons hjl
    obtain ⟨b, b1, b2, b3⟩ := ih (j + 1) (by omega)
    have st : ∀ r, Ev (fun k => if q = true then spec_l06Code.l1 k L ((j + 1 : Nat) : Int) v.1 v.2 else some 5) r → Ev (fun k => spec_l06Code.l1 k L (j : Int) v.1 v.2) r := fun r hr =>
      Ev.step (f := fun k => (spec_l06Point.f k v.1 v.2 L[j].f0 L[j].f1).bind fun t => if t = true then spec_l06Code.l1 k L ((j + 1 : Nat) : Int) v.1 v.2 else some 5) (fun k => by rw [spec_l06Code.l1, if_pos (by omega), if_pos (by omega), rd_sp L j hjl, wrS (x := (j : Int) + 1) (by omega) (by omega)]; rfl) (Ev.bind q1 hr)
    cases q with
    | false =>
      refine ⟨false, st _ ?_, ?_, fun h => by cases h⟩
      · simp only [Bool.false_eq_true, if_false]
        exact Ev.now _
      · rw [e]
        refine Ev.bind q2 ?_
        simp only [Bool.false_eq_true, if_false]
        exact Ev.now _
    | true =>
      refine ⟨b, st _ ?_, ?_, fun h x hm => ?_⟩
      · simp only [if_true]
        exact b1
      · rw [e]
        refine Ev.bind q2 ?_
        simp only [if_true]
        exact b2
      · rw [e] at hm
        rcases List.mem_cons.1 hm with rfl | hm
        · exact point_pt hx.one hx.le q1
        · exact b3 h x hm
theorem both_code (v : ByteArray × ByteArray) (L : List SP) (hl : L.length ≤ 1000) (hv : v.1.size + v.2.size ≤ 1048576) (hL : ∀ x, x ∈ L → x.f0.size + x.f1.size ≤ 1048576) :
    ∃ c : Int, Ev (fun k => spec_l06Code.f k v.1 v.2 L) c ∧ Ev (fun k => impl_starCode.f k v.1 v.2 L) c ∧
      (c = 0 → Val v ∧ v.1.size = 0 ∧ bt v.2 ((v.2.size - 1 : Nat) : Int) = 42 ∧ Pt v v ∧ (Ev (fun k => spec_l01Seq.f k v.1 v.2) true ∧ Ev (fun k => spec_l02Star.f k v.1 v.2) true) ∧ ∀ x, x ∈ L → Val (SP.pr x) ∧ Pt v (SP.pr x) ∧ Ev (fun k => spec_l01Seq.f k x.f0 x.f1) true) := by
  obtain ⟨q, q1, q2, q3⟩ := both_seq v.1 v.2 hv
  obtain ⟨b, b1, b2, b3⟩ := code_seqs v L hl hL L.length 0 (by omega)
  rw [List.drop_zero] at b2 b3
  have top : ∀ r, Ev (fun k => if q = true then spec_l06Code.l0 k L ((0 : Nat) : Int) v.1 v.2 else some 1) r → Ev (fun k => spec_l06Code.f k v.1 v.2 L) r := fun r hr => by
    unfold spec_l06Code.f
    exact Ev.bind q1 hr
  cases q with
  | false =>
    refine ⟨1, top _ ?_, ?_, fun h => by omega⟩
    · simp only [Bool.false_eq_true, if_false]
      exact Ev.now _
    · unfold impl_starCode.f
      refine Ev.bind q2 ?_
      simp only [Bool.false_eq_true, if_false]
      exact Ev.now _
  | true =>
    have hval := val_of (q3 rfl)
    cases b with
    | false =>
      refine ⟨1, top _ ?_, ?_, fun h => by omega⟩
      · simp only [if_true]
        refine b1 _ ?_
        simp only [Bool.false_eq_true, if_false]
        exact Ev.now _
      · unfold impl_starCode.f
        refine Ev.bind q2 ?_
        simp only [if_true]
        refine Ev.bind b2 ?_
        simp only [Bool.false_eq_true, if_false]
        exact Ev.now _
    | true =>
      obtain ⟨s, s1, s2, s3⟩ := both_star v.1 v.2 hval.one hval.le
      obtain ⟨p, p1, p2, p3⟩ := code_points v L hl (fun x hx => (b3 rfl x hx).1) L.length 0 (by omega)
      rw [List.drop_zero] at p2 p3
      cases s with
      | false =>
        refine ⟨5, top _ ?_, ?_, fun h => by omega⟩
        · simp only [if_true]
          refine b1 _ ?_
          simp only [if_true]
          refine Ev.bind s1 ?_
          simp only [Bool.false_eq_true, if_false]
          exact Ev.now _
        · unfold impl_starCode.f
          refine Ev.bind q2 ?_
          simp only [if_true]
          refine Ev.bind b2 ?_
          simp only [if_true, s2, Option.bind_some, Bool.false_eq_true, if_false]
          exact Ev.now _
      | true =>
        obtain ⟨t1, t2, t3⟩ := s3 rfl
        refine ⟨if p = true then 0 else 5, top _ ?_, ?_, fun h => ⟨hval, t1, t2, star_self hval t1 t3, ⟨q1, s1⟩, fun x hx => ?_⟩⟩
        · simp only [if_true]
          refine b1 _ ?_
          simp only [if_true]
          refine Ev.bind s1 ?_
          simp only [if_true]
          exact p1
        · unfold impl_starCode.f
          refine Ev.bind q2 ?_
          simp only [if_true]
          refine Ev.bind b2 ?_
          simp only [if_true, s2, Option.bind_some]
          exact Ev.bind p2 (Ev.now _)
        · cases p with
          | false => simp at h
          | true => exact ⟨(b3 rfl x hx).1, p3 rfl x hx, (b3 rfl x hx).2⟩
theorem bt_get (s : ByteArray) (i : Nat) : bt s (i : Int) = ((s.data.toList[i]?).map (fun b => (b.toNat : Int))).getD 0 := by
  by_cases h : i < s.size
  · have hb : i < (bytesOf s).length := by rw [bytesOf_length]; exact h
    rw [← get_bytesOf s i hb]
    have hl : i < s.data.toList.length := by rw [data_length]; exact h
    simp [bytesOf, List.getElem?_eq_getElem hl]
  · have hl : s.data.toList.length ≤ i := by rw [data_length]; omega
    rw [List.getElem?_eq_none hl]
    unfold bt
    rw [dif_neg (by simpa using h)]
    rfl
theorem bt_extract (s : ByteArray) (a b i : Nat) (hi : a + i < b) (hb : b ≤ s.size) : bt (s.extract a b) (i : Int) = bt s ((a + i : Nat) : Int) := by
  rw [bt_get, bt_get]
  congr 2
  have e : (s.extract a b).data.toList = (s.data.toList.drop a).take (b - a) := by simp [ByteArray.extract, ByteArray.copySlice]
  rw [e, List.getElem?_take, if_pos (by omega), List.getElem?_drop]
theorem bt_append (s t : ByteArray) (i : Nat) : bt (s ++ t) (i : Int) = if i < s.size then bt s (i : Int) else bt t ((i - s.size : Nat) : Int) := by
  have e : (s ++ t).data.toList = s.data.toList ++ t.data.toList := by simp
  have hs : s.data.toList.length = s.size := data_length s
  rw [bt_get, e]
  split
  · rw [List.getElem?_append_left (by omega), bt_get]
  · rw [List.getElem?_append_right (by omega), bt_get, hs]
theorem ext_bt {x y : ByteArray} (hs : x.size = y.size) (h : ∀ i : Nat, i < x.size → bt x (i : Int) = bt y (i : Int)) : x = y := by
  have : x.data.toList = y.data.toList := by
    apply List.ext_getElem?
    intro i
    by_cases hi : i < x.size
    · exact (bt_eq x y i i hi (by omega)).1 (h i hi)
    · rw [List.getElem?_eq_none (by rw [data_length]; omega), List.getElem?_eq_none (by rw [data_length]; omega)]
  cases x
  cases y
  congr 1
  exact Array.ext' this
def cyc (y : ByteArray) (k : Nat) : Int := bt y ((k % y.size : Nat) : Int)
theorem perP_fun {y : ByteArray} {m : Nat} (h1 : 1 ≤ m) (hm : m ≤ y.size) : perP y m ↔ y.size % m = 0 ∧ ∀ k, cyc y (k + m) = cyc y k := by
  unfold perP
  constructor
  · rintro ⟨hd, hp⟩
    refine ⟨hd, fun k => ?_⟩
    have hq := (per_mod h1 hm).1 hp
    have hdv : m ∣ y.size := Nat.dvd_of_mod_eq_zero hd
    unfold cyc
    rw [hq _ (Nat.mod_lt _ (by omega)), hq (k % y.size) (Nat.mod_lt _ (by omega)), Nat.mod_mod_of_dvd _ hdv, Nat.mod_mod_of_dvd _ hdv, Nat.add_mod_right]
  · rintro ⟨hd, hp⟩
    refine ⟨hd, fun i h2 h3 => ?_⟩
    have := hp (i - m)
    unfold cyc at this
    rw [show i - m + m = i by omega, Nat.mod_eq_of_lt h3, Nat.mod_eq_of_lt (by omega)] at this
    exact this
theorem per_gcd (f : Nat → Int) : ∀ p q, (∀ k, f (k + p) = f k) → (∀ k, f (k + q) = f k) → ∀ k, f (k + Nat.gcd p q) = f k := by
  intro p q
  induction p, q using Nat.gcd.induction with
  | H0 n => intro _ h k; rw [Nat.gcd_zero_left]; exact h k
  | H1 m n hm ih =>
    intro h1 h2 k
    rw [Nat.gcd_rec]
    refine ih (fun k => ?_) h1 k
    have hmul : ∀ d k, f (k + m * d) = f k := by
      intro d
      induction d with
      | zero => intro k; rfl
      | succ d ihd =>
        intro k
        rw [Nat.mul_succ, ← Nat.add_assoc, h1]
        exact ihd k
    rw [← hmul (n / m) (k + n % m), Nat.add_assoc, Nat.mod_add_div]
    exact h2 k
def Pr (y : ByteArray) : Prop := ∀ m, 1 ≤ m → m < y.size → ¬ perP y m
theorem canon_uniq {x y z : ByteArray} (hy : 1 ≤ y.size) (hz : 1 ≤ z.size) (hc : Cn x y) (py : Pr y) (pz : Pr z) (h : ∀ k, atV x y k = cyc z k) : x.size = 0 ∧ y = z := by
  have hx : x.size = 0 := by
    rcases hc with hc | hc
    · exact hc
    · by_cases h0 : x.size = 0
      · exact h0
      · exfalso
        have h1 := h (x.size - 1)
        have h2 := h (x.size - 1 + y.size * z.size)
        have e : cyc z (x.size - 1 + y.size * z.size) = cyc z (x.size - 1) := by unfold cyc; rw [Nat.add_mul_mod_self_right]
        rw [e, ← h1] at h2
        have hpos : 1 ≤ y.size * z.size := Nat.mul_pos hy hz
        unfold atV at h2
        rw [if_neg (by omega), if_pos (by omega)] at h2
        have e2 : (x.size - 1 + y.size * z.size - x.size) % y.size = y.size - 1 := by
          obtain ⟨q, hq⟩ : ∃ q, z.size = q + 1 := ⟨z.size - 1, by omega⟩
          rw [hq, Nat.mul_succ, show x.size - 1 + (y.size * q + y.size) - x.size = (y.size - 1) + y.size * q by omega, Nat.add_mul_mod_self_left, Nat.mod_eq_of_lt (by omega)]
        rw [e2] at h2
        exact hc h2.symm
  refine ⟨hx, ?_⟩
  have hf : ∀ k, cyc y k = cyc z k := fun k => by
    rw [← h k]
    unfold atV cyc
    rw [if_neg (by omega), hx, Nat.sub_zero]
  have p1 : ∀ k, cyc y (k + y.size) = cyc y k := fun k => by unfold cyc; rw [Nat.add_mod_right]
  have p2 : ∀ k, cyc y (k + z.size) = cyc y k := fun k => by rw [hf, hf]; unfold cyc; rw [Nat.add_mod_right]
  have pg := per_gcd (cyc y) y.size z.size p1 p2
  have g1 : 1 ≤ Nat.gcd y.size z.size := Nat.gcd_pos_of_pos_left _ hy
  have gy : Nat.gcd y.size z.size ≤ y.size := Nat.gcd_le_left _ hy
  have gz : Nat.gcd y.size z.size ≤ z.size := Nat.gcd_le_right _ hz
  have e1 : Nat.gcd y.size z.size = y.size := by
    by_cases hlt : Nat.gcd y.size z.size < y.size
    · exact absurd ((perP_fun g1 gy).2 ⟨Nat.mod_eq_zero_of_dvd (Nat.gcd_dvd_left _ _), pg⟩) (py _ g1 hlt)
    · omega
  have e2 : Nat.gcd y.size z.size = z.size := by
    by_cases hlt : Nat.gcd y.size z.size < z.size
    · exact absurd ((perP_fun g1 gz).2 ⟨Nat.mod_eq_zero_of_dvd (Nat.gcd_dvd_right _ _), fun k => by rw [← hf, ← hf]; exact pg k⟩) (pz _ g1 hlt)
    · omega
  refine ext_bt (by omega) (fun i hi => ?_)
  have := hf i
  unfold cyc at this
  rwa [Nat.mod_eq_of_lt hi, Nat.mod_eq_of_lt (by omega)] at this
theorem rot_bt (y : ByteArray) (hy : 1 ≤ y.size) (i : Nat) (hi : i < y.size) : bt (y.extract (y.size - 1) y.size ++ y.extract 0 (y.size - 1)) (i : Int) = if i = 0 then bt y ((y.size - 1 : Nat) : Int) else bt y ((i - 1 : Nat) : Int) := by
  have h1 : (y.extract (y.size - 1) y.size).size = 1 := by simp; omega
  rw [bt_append, h1]
  by_cases h0 : i = 0
  · subst h0
    rw [if_pos (by omega), if_pos rfl, bt_extract _ _ _ _ (by omega) (Nat.le_refl _)]
    rfl
  · rw [if_neg (by omega), if_neg h0, bt_extract _ _ _ _ (by omega) (by omega), Nat.zero_add]
theorem rot_cyc (y : ByteArray) (hy : 1 ≤ y.size) (k : Nat) : cyc (y.extract (y.size - 1) y.size ++ y.extract 0 (y.size - 1)) (k + 1) = cyc y k := by
  unfold cyc
  rw [rot_size y hy, rot_bt y hy _ (Nat.mod_lt _ (by omega))]
  by_cases h : k % y.size = y.size - 1
  · have e : (k + 1) % y.size = 0 := by
      have hd := Nat.div_add_mod k y.size
      rw [show k + 1 = y.size * (k / y.size + 1) by rw [Nat.mul_succ]; omega, Nat.mul_mod_right]
    rw [if_pos e, h]
  · have hl := Nat.mod_lt k (show 0 < y.size by omega)
    have e : (k + 1) % y.size = k % y.size + 1 := by
      rw [Nat.add_mod, Nat.mod_eq_of_lt (a := 1) (by omega), Nat.mod_eq_of_lt (by omega)]
    rw [if_neg (by omega), e]
    rfl
theorem rot_pr {y : ByteArray} (hy : 1 ≤ y.size) (h : Pr y) : Pr (y.extract (y.size - 1) y.size ++ y.extract 0 (y.size - 1)) := by
  intro m m1 m2 hp
  have hz := rot_size y hy
  rw [hz] at m2
  have hf := (perP_fun m1 (by rw [hz]; omega)).1 hp
  rw [hz] at hf
  refine h m m1 m2 ((perP_fun m1 (by omega)).2 ⟨hf.1, fun k => ?_⟩)
  rw [← rot_cyc y hy, ← rot_cyc y hy, show k + m + 1 = k + 1 + m by omega]
  exact hf.2 (k + 1)
theorem atV_cyc (x y : ByteArray) (k : Nat) : atV x y k = if k < x.size then bt x (k : Int) else cyc y (k - x.size) := rfl
theorem rotB_at : ∀ n x y, x.size = n → 1 ≤ y.size → Pr y → (∀ k, atV (rotB n x y).1 (rotB n x y).2 k = atV x y k) ∧ Pr (rotB n x y).2 ∧ Cn (rotB n x y).1 (rotB n x y).2 := by
  intro n
  induction n with
  | zero => intro x y hx hy hp; exact ⟨fun k => rfl, hp, .inl hx⟩
  | succ n ih =>
    intro x y hx hy hp
    unfold rotB
    by_cases e : bt x (n : Int) = bt y ((y.size - 1 : Nat) : Int)
    · rw [if_pos e]
      have hx' : (x.extract 0 n).size = n := by simp; omega
      obtain ⟨i1, i2, i3⟩ := ih (x.extract 0 n) (y.extract (y.size - 1) y.size ++ y.extract 0 (y.size - 1)) hx' (by rw [rot_size y hy]; exact hy) (rot_pr hy hp)
      refine ⟨fun k => ?_, i2, i3⟩
      rw [i1, atV_cyc, atV_cyc, hx', hx]
      by_cases h1 : k < n
      · rw [if_pos h1, if_pos (by omega), bt_extract _ _ _ _ (by omega) (by omega), Nat.zero_add]
      · rw [if_neg h1]
        by_cases h2 : k = n
        · subst h2
          rw [if_pos (by omega), Nat.sub_self, e]
          unfold cyc
          rw [rot_size y hy, Nat.zero_mod, rot_bt y hy 0 (by omega), if_pos rfl]
        · rw [if_neg (by omega), show k - n = k - (n + 1) + 1 by omega, rot_cyc y hy]
    · rw [if_neg e]
      exact ⟨fun k => rfl, hp, .inr (by show bt x ((x.size - 1 : Nat) : Int) ≠ _; rw [hx]; exact e)⟩
theorem root_pr {y : ByteArray} {m : Nat} (m1 : 1 ≤ m) (m2 : m ≤ y.size) (hp : perP y m) (hl : ∀ j, 1 ≤ j → j < m → ¬ perP y j) : Pr (y.extract 0 m) ∧ ∀ k, cyc (y.extract 0 m) k = cyc y k := by
  have hz : (y.extract 0 m).size = m := by simp; omega
  have hq := (per_mod m1 m2).1 hp.2
  have hf : ∀ k, cyc (y.extract 0 m) k = cyc y k := fun k => by
    unfold cyc
    rw [hz, bt_extract _ _ _ _ (by rw [Nat.zero_add]; exact Nat.mod_lt _ (by omega)) m2, Nat.zero_add, hq _ (Nat.mod_lt _ (by omega)), Nat.mod_mod_of_dvd _ (Nat.dvd_of_mod_eq_zero hp.1)]
  refine ⟨fun d d1 d2 hd => ?_, hf⟩
  rw [hz] at d2
  have h1 := (perP_fun d1 (by rw [hz]; omega)).1 hd
  rw [hz] at h1
  have hdm : d ∣ y.size := Nat.dvd_trans (Nat.dvd_of_mod_eq_zero h1.1) (Nat.dvd_of_mod_eq_zero hp.1)
  exact hl d d1 d2 ((perP_fun d1 (by omega)).2 ⟨Nat.mod_eq_zero_of_dvd hdm, fun k => by rw [← hf, ← hf]; exact h1.2 k⟩)
theorem both_canon3 (x y : ByteArray) (hy : 1 ≤ y.size) (h64 : x.size + y.size ≤ 4096) :
    ∃ c : ByteArray × ByteArray, Ev (fun k => spec_l01Canonical.f k x y) c ∧ Ev (fun k => impl_sequence.f k x y) c ∧ c.1.size ≤ x.size ∧ 1 ≤ c.2.size ∧ c.2.size ≤ y.size ∧ (∀ k, atV c.1 c.2 k = atV x y k) ∧ Pr c.2 ∧ Cn c.1 c.2 := by
  obtain ⟨m, m1, m2, hp, hl⟩ := perP_least y hy
  have hz : (y.extract 0 m).size = m := by simp; omega
  have sz := rotB_size x.size x (y.extract 0 m) rfl (by omega)
  obtain ⟨r1, r2⟩ := root_pr m1 m2 hp hl
  obtain ⟨q1, q2, q3⟩ := rotB_at x.size x (y.extract 0 m) rfl (by omega) r1
  refine ⟨rotB x.size x (y.extract 0 m), ?_, ?_, sz.1, by omega, by omega, fun k => ?_, q2, q3⟩
  · unfold spec_l01Canonical.f
    have hr : Ev (fun k => spec_l01Canonical.j2 k x (y.extract 0 m)) (rotB x.size x (y.extract 0 m)) :=
      Ev.step (f := fun k => spec_l01Canonical.l2 k x (y.extract 0 m)) (fun k => by rw [spec_l01Canonical.j2]) (ev_spec_rot x.size x (y.extract 0 m) rfl (by omega) (by omega) (by omega))
    exact out_root (by omega) m1 m2 hp hl hr (m - 1) 1 (by omega) (by omega)
  · unfold impl_sequence.f
    refine Ev.bind (ev_impl_root (by omega) m1 m2 hp hl) ?_
    exact ev_impl_rot x.size x (y.extract 0 m) rfl (by omega) (by omega) (by omega)
  · rw [q1, atV_cyc, atV_cyc]
    split
    · rfl
    · exact r2 _
theorem canon_self (x y : ByteArray) (hy : 1 ≤ y.size) (h64 : x.size + y.size ≤ 4096) (hc : Cn x y) (hp : Pr y) : Ev (fun k => spec_l01Canonical.f k x y) (x, y) ∧ Ev (fun k => impl_sequence.f k x y) (x, y) := by
  have hl : perP y y.size := ⟨Nat.mod_self _, fun i h1 h2 => by omega⟩
  have he : y.extract 0 y.size = y := ext_bt (by simp) (fun i hi => by
    have hi' : i < y.size := by simpa using hi
    rw [bt_extract _ _ _ _ (by omega) (Nat.le_refl _), Nat.zero_add])
  have hr : rotB x.size x y = (x, y) := by
    cases hn : x.size with
    | zero => rfl
    | succ n =>
      rw [rotB, if_neg]
      rcases hc with hc | hc
      · omega
      · rw [hn] at hc; exact hc
  constructor
  · unfold spec_l01Canonical.f
    have hq : Ev (fun k => spec_l01Canonical.j2 k x (y.extract 0 y.size)) (x, y) := by
      rw [he]
      refine Ev.step (f := fun k => spec_l01Canonical.l2 k x y) (fun k => by rw [spec_l01Canonical.j2]) ?_
      have := ev_spec_rot x.size x y rfl (by omega) (by omega) (by omega)
      rwa [hr] at this
    exact out_root (by omega) hy (Nat.le_refl _) hl hp hq (y.size - 1) 1 (by omega) (by omega)
  · unfold impl_sequence.f
    refine Ev.bind (ev_impl_root (by omega) hy (Nat.le_refl _) hl hp) ?_
    rw [he]
    have := ev_impl_rot x.size x y rfl (by omega) (by omega) (by omega)
    rwa [hr] at this
theorem Ev.one {α : Type} {f : Nat → Option α} {a b : α} (h : Ev f a) (k : Ev f b) : a = b := by
  obtain ⟨K, hK⟩ := h
  obtain ⟨L, hL⟩ := k
  have h1 := hK (K + L) (by omega)
  have h2 := hL (K + L) (by omega)
  rw [h1] at h2
  exact Option.some.inj h2
abbrev PP := ByteArray × ByteArray
open Classical in
noncomputable def canonC (x y : ByteArray) : PP := if h : ∃ c, Ev (fun k => spec_l01Canonical.f k x y) c then Classical.choose h else (x, y)
theorem canonC_of {x y : ByteArray} {c : PP} (h : Ev (fun k => spec_l01Canonical.f k x y) c) : canonC x y = c := by
  have he : ∃ c, Ev (fun k => spec_l01Canonical.f k x y) c := ⟨c, h⟩
  unfold canonC
  rw [dif_pos he]
  exact Ev.one (Classical.choose_spec he) h
noncomputable def tell (x y : ByteArray) : ByteArray × ByteArray × Bool := told (canonC x y)
theorem ev_tell {x y : ByteArray} (hy : 1 ≤ y.size) (h : x.size + y.size ≤ 4096) : Ev (fun k => spec_l06Told.f k x y) (tell x y) := by
  obtain ⟨c, c1, c2, c3, c4, c5, _⟩ := both_canon x y hy h
  unfold spec_l06Told.f tell told
  rw [canonC_of c1]
  refine Ev.bind c1 ?_
  rw [wrS (by omega) (by omega)]
  have e : decide ((c.1.size : Int) + (c.2.size : Int) ≤ 64) = decide (c.1.size + c.2.size ≤ 64) := by rw [decide_eq_decide]; omega
  rw [e]
  exact Ev.now _
noncomputable def runM (v : PP) : Nat → List Int → List Tri → Tri → ByteArray × ByteArray × Bool
  | 0, _, _, _ => (⟨#[]⟩, ⟨#[]⟩, false)
  | d + 1, w, qs, q =>
    if q.same.2.2 = true then tell (strOfNums w ++ q.same.1) q.same.2.1
    else if q.vote.2 = 0 then tell (strOfNums w ++ q.q0.1) q.q0.2
    else if q.vote.2 = 1 then tell (strOfNums w ++ q.q1.1) q.q1.2
    else if q.vote.2 = 2 then tell (strOfNums w ++ q.q2.1) q.q2.2
    else if q ∈ qs then tell (strOfNums (w.take (qs.idxOf q))) (strOfNums (w.drop (qs.idxOf q)))
    else runM v d (w ++ [q.vote.1]) (qs ++ [q]) (q.mv v q.vote.1)
theorem idx_ne {α : Type} [DecidableEq α] {x q : α} (h : ¬ x = q) (xs : List α) : (x :: xs).idxOf q = xs.idxOf q + 1 := by
  rw [List.idxOf_cons, beq_eq_false_iff_ne.2 h]
  rfl
theorem idxOf_lt_ne {α : Type} [DecidableEq α] (q : α) : ∀ (qs : List α) (t : Nat) (ht : t < qs.length), t < qs.idxOf q → qs[t] ≠ q
  | x :: xs, 0, ht, h => by
    intro e
    have e : x = q := e
    subst e
    simp at h
  | x :: xs, t + 1, ht, h => by
    have hx : ¬ x = q := by
      rintro rfl
      simp at h
    have h2 : (x :: xs).idxOf q = xs.idxOf q + 1 := idx_ne hx xs
    exact idxOf_lt_ne q xs t (by simpa using ht) (by omega)
theorem ev_run {v : PP} (hv : Val v) (hpv : Pt v v) (hv1 : v.1.size = 0) (hv2 : bt v.2 ((v.2.size - 1 : Nat) : Int) = 42) :
    ∀ (d : Nat) (w : List Int) (qs : List Tri) (q : Tri), w.length + d = 601 → qs.length = w.length → q.Ok v →
      Ev (fun k => spec_l06Middle.l0 k w (qs.map Tri.s) (w.length : Int) v.1 v.2 q.q0.1 q.q0.2 q.q1.1 q.q1.2 q.q2.1 q.q2.2) (runM v d w qs q) := by
  intro d
  induction d with
  | zero =>
    intro w qs q hw hq h
    exact Ev.step (f := fun _ => some _) (fun k => by rw [spec_l06Middle.l0, if_neg (by omega)]; rfl) (Ev.now _)
  | succ d ih =>
    intro w qs q hw hq h
    have hsz := str_size w
    refine Ev.step (fun k => (spec_l06Middle.l0.eq_2 _ _ _ _ _ _ _ _ _ _ _ _).trans (if_pos (by omega))) ?_
    refine Ev.bind (same_spec q) ?_
    rw [runM]
    by_cases hs : q.same.2.2 = true
    · obtain ⟨z1, z2⟩ := same_val h hs
      simp only [if_pos hs, if_pos (show (strOfNums w).size + q.same.1.size ≤ 9223372036854775807 by omega)]
      exact Ev.bind (ev_tell z1 (by rw [ByteArray.size_append]; omega)) (Ev.now _)
    · have hs' : q.same.2.2 = false := Bool.eq_false_iff.2 hs
      obtain ⟨d0, d1, d2⟩ := same_ne hs'
      obtain ⟨lv, lc⟩ := letters_val h hv1 hv2 d0 d1 d2
      simp only [if_neg hs, lv, Option.bind_some]
      by_cases e0 : q.vote.2 = 0
      · simp only [if_pos (show q.vote.2 ≥ 0 by omega), if_pos e0, if_pos (show (strOfNums w).size + q.q0.1.size ≤ 9223372036854775807 by have := h.v0.le; omega)]
        exact Ev.bind (ev_tell h.v0.one (by rw [ByteArray.size_append]; have := h.v0.le; omega)) (Ev.now _)
      · by_cases e1 : q.vote.2 = 1
        · simp only [if_pos (show q.vote.2 ≥ 0 by omega), if_neg e0, if_pos e1, if_pos (show (strOfNums w).size + q.q1.1.size ≤ 9223372036854775807 by have := h.v1.le; omega)]
          exact Ev.bind (ev_tell h.v1.one (by rw [ByteArray.size_append]; have := h.v1.le; omega)) (Ev.now _)
        · by_cases e2 : q.vote.2 = 2
          · simp only [if_pos (show q.vote.2 ≥ 0 by omega), if_neg e0, if_neg e1, if_pos e2, if_pos (show (strOfNums w).size + q.q2.1.size ≤ 9223372036854775807 by have := h.v2.le; omega)]
            exact Ev.bind (ev_tell h.v2.one (by rw [ByteArray.size_append]; have := h.v2.le; omega)) (Ev.now _)
          · have lc' : q.vote.2 = -1 ∧ (q.vote.1 = 48 ∨ q.vote.1 = 49) := by
              rcases lc with lc | lc
              · exact lc
              · omega
            simp only [if_neg (show ¬ q.vote.2 ≥ 0 by omega), if_neg e0, if_neg e1, if_neg e2]
            by_cases hm : q ∈ qs
            · rw [if_pos hm]
              have hlt := List.idxOf_lt_length_of_mem hm
              have he : qs[qs.idxOf q] = q := List.getElem_idxOf hlt
              have ht := ev_tell (x := strOfNums (w.take (qs.idxOf q))) (y := strOfNums (w.drop (qs.idxOf q))) (by rw [str_size, List.length_drop]; omega) (by rw [str_size, str_size, List.length_drop, List.length_take]; omega)
              exact scan_some (by omega) hq (qs.idxOf q) hlt he ht (qs.idxOf q) 0 (by omega) (fun t h1 h2 => idxOf_lt_ne q qs t h1 h2)
            · rw [if_neg hm]
              refine scan_none (by omega) hq ?_ qs.length 0 (by omega) (fun t ht _ e => hm (by rw [← e]; exact List.getElem_mem ht))
              refine ev_l2 (by omega) h ?_
              have := ih (w ++ [q.vote.1]) (qs ++ [q]) (q.mv v q.vote.1) (by simp; omega) (by simp; omega) (h.mv hv hpv _)
              rw [List.length_append] at this
              exact this
def sw01 (q : Tri) : Tri := ⟨q.q1, q.q0, q.q2⟩
def sw02 (q : Tri) : Tri := ⟨q.q2, q.q1, q.q0⟩
theorem same_sw01 (q : Tri) : (sw01 q).same = q.same := by
  obtain ⟨a, b, c⟩ := q
  unfold Tri.same sw01
  by_cases h1 : a = b
  · subst h1; simp
  · by_cases h2 : a = c
    · subst h2; simp [h1, Ne.symm h1]
    · by_cases h3 : b = c
      · subst h3; simp [h1, Ne.symm h1]
      · simp [h1, Ne.symm h1, h2, h3]
theorem same_sw02 (q : Tri) : (sw02 q).same = q.same := by
  obtain ⟨a, b, c⟩ := q
  unfold Tri.same sw02
  by_cases h1 : a = b
  · subst h1
    by_cases h2 : c = a
    · subst h2; simp
    · simp [h2]
  · by_cases h2 : a = c
    · subst h2; simp [h1, Ne.symm h1]
    · by_cases h3 : b = c
      · subst h3; simp [h1, Ne.symm h1]
      · simp [h1, Ne.symm h1, h2, Ne.symm h2, h3, Ne.symm h3]
theorem vote_sw {a b c : Int} (ha : a = 48 ∨ a = 49 ∨ a = 42) (hb : b = 48 ∨ b = 49 ∨ b = 42) (hc : c = 48 ∨ c = 49 ∨ c = 42) (h1 : ¬ (a = 42 ∧ b = 42)) (h2 : ¬ (a = 42 ∧ c = 42)) (h3 : ¬ (b = 42 ∧ c = 42)) :
    voteEnd (voteAt b a c 3) = ((voteEnd (voteAt a b c 3)).1, if (voteEnd (voteAt a b c 3)).2 = 0 then 1 else if (voteEnd (voteAt a b c 3)).2 = 1 then 0 else (voteEnd (voteAt a b c 3)).2) ∧
    voteEnd (voteAt c b a 3) = ((voteEnd (voteAt a b c 3)).1, if (voteEnd (voteAt a b c 3)).2 = 0 then 2 else if (voteEnd (voteAt a b c 3)).2 = 2 then 0 else (voteEnd (voteAt a b c 3)).2) := by
  rcases ha with rfl | rfl | rfl <;> rcases hb with rfl | rfl | rfl <;> rcases hc with rfl | rfl | rfl <;> first | (exact absurd ⟨rfl, rfl⟩ h1) | (exact absurd ⟨rfl, rfl⟩ h2) | (exact absurd ⟨rfl, rfl⟩ h3) | decide
theorem sw01_inj {q r : Tri} (h : sw01 q = sw01 r) : q = r := by
  obtain ⟨a, b, c⟩ := q
  obtain ⟨a', b', c'⟩ := r
  simp only [sw01, Tri.mk.injEq] at h
  obtain ⟨rfl, rfl, rfl⟩ := h
  rfl
theorem sw02_inj {q r : Tri} (h : sw02 q = sw02 r) : q = r := by
  obtain ⟨a, b, c⟩ := q
  obtain ⟨a', b', c'⟩ := r
  simp only [sw02, Tri.mk.injEq] at h
  obtain ⟨rfl, rfl, rfl⟩ := h
  rfl
theorem idx_map {π : Tri → Tri} (hi : ∀ q r, π q = π r → q = r) (q : Tri) : ∀ qs : List Tri, (qs.map π).idxOf (π q) = qs.idxOf q
  | [] => rfl
  | x :: xs => by
    rw [List.map_cons]
    by_cases h : x = q
    · subst h; simp
    · rw [idx_ne (fun e => h (hi _ _ e)), idx_ne h, idx_map hi q xs]
theorem mem_map_inj {π : Tri → Tri} (hi : ∀ q r, π q = π r → q = r) (q : Tri) (qs : List Tri) : π q ∈ qs.map π ↔ q ∈ qs := by
  constructor
  · intro h
    obtain ⟨r, hr, e⟩ := List.mem_map.1 h
    rw [← hi _ _ e]; exact hr
  · exact fun h => List.mem_map.2 ⟨q, h, rfl⟩
theorem one_star {v : PP} {q : Tri} (h : q.Ok v) (hv1 : v.1.size = 0) (hv2 : bt v.2 ((v.2.size - 1 : Nat) : Int) = 42) (hs : ¬ q.same.2.2 = true) : ¬ (hd q.q0 = 42 ∧ hd q.q1 = 42) ∧ ¬ (hd q.q0 = 42 ∧ hd q.q2 = 42) ∧ ¬ (hd q.q1 = 42 ∧ hd q.q2 = 42) := by
  obtain ⟨d0, d1, d2⟩ := same_ne (Bool.eq_false_iff.2 hs)
  have one : ∀ {s t : PP}, Val s → Val t → Pt v s → Pt v t → s ≠ t → ¬ (hd s = 42 ∧ hd t = 42) := fun {s t} hs ht ps pt hne ⟨e1, e2⟩ => hne (star_one hs ht (ps 0 e1) (pt 0 e2) e1 e2 hv1 hv2)
  exact ⟨one h.v0 h.v1 h.p0 h.p1 d0, one h.v0 h.v2 h.p0 h.p2 d1, one h.v1 h.v2 h.p1 h.p2 d2⟩
theorem run_sw01 {v : PP} (hv : Val v) (hpv : Pt v v) (hv1 : v.1.size = 0) (hv2 : bt v.2 ((v.2.size - 1 : Nat) : Int) = 42) : ∀ d w qs (q : Tri), q.Ok v → runM v d w (qs.map sw01) (sw01 q) = runM v d w qs q := by
  intro d
  induction d with
  | zero => intro w qs q h; rfl
  | succ d ih =>
    intro w qs q h
    rw [runM, runM, same_sw01]
    by_cases hs : q.same.2.2 = true
    · rw [if_pos hs, if_pos hs]
    · rw [if_neg hs, if_neg hs]
      obtain ⟨n1, n2, n3⟩ := one_star h hv1 hv2 hs
      have hV : (sw01 q).vote = (q.vote.1, if q.vote.2 = 0 then 1 else if q.vote.2 = 1 then 0 else q.vote.2) := (vote_sw (hd_val h.v0).2.2 (hd_val h.v1).2.2 (hd_val h.v2).2.2 n1 n2 n3).1
      rw [hV]
      by_cases e0 : q.vote.2 = 0
      · simp [e0, sw01]
      · by_cases e1 : q.vote.2 = 1
        · simp [e1, sw01]
        · by_cases e2 : q.vote.2 = 2
          · simp [e2, sw01]
          · simp only [e0, e1, e2, if_false]
            rw [idx_map (fun _ _ => sw01_inj) q qs]
            by_cases hm : q ∈ qs
            · rw [if_pos hm, if_pos ((mem_map_inj (fun _ _ => sw01_inj) q qs).2 hm)]
            · rw [if_neg hm, if_neg (fun hh => hm ((mem_map_inj (fun _ _ => sw01_inj) q qs).1 hh))]
              have := ih (w ++ [q.vote.1]) (qs ++ [q]) (q.mv v q.vote.1) (h.mv hv hpv _)
              rw [List.map_append] at this
              exact this
theorem run_sw02 {v : PP} (hv : Val v) (hpv : Pt v v) (hv1 : v.1.size = 0) (hv2 : bt v.2 ((v.2.size - 1 : Nat) : Int) = 42) : ∀ d w qs (q : Tri), q.Ok v → runM v d w (qs.map sw02) (sw02 q) = runM v d w qs q := by
  intro d
  induction d with
  | zero => intro w qs q h; rfl
  | succ d ih =>
    intro w qs q h
    rw [runM, runM, same_sw02]
    by_cases hs : q.same.2.2 = true
    · rw [if_pos hs, if_pos hs]
    · rw [if_neg hs, if_neg hs]
      obtain ⟨n1, n2, n3⟩ := one_star h hv1 hv2 hs
      have hV : (sw02 q).vote = (q.vote.1, if q.vote.2 = 0 then 2 else if q.vote.2 = 2 then 0 else q.vote.2) := (vote_sw (hd_val h.v0).2.2 (hd_val h.v1).2.2 (hd_val h.v2).2.2 n1 n2 n3).2
      rw [hV]
      by_cases e0 : q.vote.2 = 0
      · simp [e0, sw02]
      · by_cases e1 : q.vote.2 = 1
        · simp [e1, sw02]
        · by_cases e2 : q.vote.2 = 2
          · simp [e2, sw02]
          · simp only [e0, e1, e2, if_false]
            rw [idx_map (fun _ _ => sw02_inj) q qs]
            by_cases hm : q ∈ qs
            · rw [if_pos hm, if_pos ((mem_map_inj (fun _ _ => sw02_inj) q qs).2 hm)]
            · rw [if_neg hm, if_neg (fun hh => hm ((mem_map_inj (fun _ _ => sw02_inj) q qs).1 hh))]
              have := ih (w ++ [q.vote.1]) (qs ++ [q]) (q.mv v q.vote.1) (h.mv hv hpv _)
              rw [List.map_append] at this
              exact this
end Go.Proofs.Ytmhpbilkocnlnaa.Q
end
