/- Joined texts: Qx16, Qx17, Qx18, Qx24, Qx25, Qx26, Qx27, Qx28 -/
import Derived.Test.YtbiehbmojbmnoaaPkFnExactIsBetween22
section
namespace Go.Proofs.Ytbiehbmojbmnoaa.Q
open Go.Proofs.YtbiehbmojbmnoaaW.Ext
open Go.RowKit Go.Proofs.YtbiehbmojbmnoaaW.PrintWords Go.Proofs.YtbiehbmojbmnoaaW.PrintLast Go.Proofs.YtbiehbmojbmnoaaW.PrintMore
attribute [local go_sem] max2_int min2_int max_two min_two max_three min_three max_four min_four   -- for this text's walks alone
set_option linter.unusedVariables false
set_option linter.unusedSimpArgs false
attribute [local go_sem high] eqA36
mutual
def spec_l06Middle.l0:Nat → List Int → List (S36) → Int → ByteArray → ByteArray → ByteArray → ByteArray → ByteArray → ByteArray → ByteArray → ByteArray → Option (ByteArray × ByteArray × Bool)
 | 0,_,_,_,_,_,_,_,_,_,_,_=>none
 | k + 1,x6,x7,x8,x145000,x145001,x146000,x146001,x146002,x146003,x146004,x146005=>if x8 ≤ 600 then ((spec_l06Same.f k x146000 x146001 x146002 x146003 x146004 x146005).bind fun bt153=>(if bt153.2.2 = true then (if (strOfNums x6).size + bt153.1.size ≤ 9223372036854775807 then ((spec_l06Told.f k ((strOfNums x6) ++ bt153.1) bt153.2.1).bind fun bt157=>(some (bt157.1,bt157.2.1,bt157.2.2))) else (none)) else ((spec_l06Letters.f x146000 x146001 x146002 x146003 x146004 x146005).bind fun bt160=>(if bt160.2 ≥ 0 then (if bt160.2 = 0 then (if (strOfNums x6).size + x146000.size ≤ 9223372036854775807 then ((spec_l06Told.f k ((strOfNums x6) ++ x146000) x146001).bind fun bt162=>(some (bt162.1,bt162.2.1,bt162.2.2))) else (none)) else (if bt160.2 = 1 then (if (strOfNums x6).size + x146002.size ≤ 9223372036854775807 then ((spec_l06Told.f k ((strOfNums x6) ++ x146002) x146003).bind fun bt165=>(some (bt165.1,bt165.2.1,bt165.2.2))) else (none)) else (if bt160.2 = 2 then (if (strOfNums x6).size + x146004.size ≤ 9223372036854775807 then ((spec_l06Told.f k ((strOfNums x6) ++ x146004) x146005).bind fun bt168=>(some (bt168.1,bt168.2.1,bt168.2.2))) else (none)) else (none)))) else (spec_l06Middle.l1 k x6 x7 x8 bt160.1 0 x145000 x145001 x146000 x146001 x146002 x146003 x146004 x146005))))) else (some ((⟨#[]⟩:ByteArray),(⟨#[]⟩:ByteArray),false))
def spec_l06Middle.l1:Nat → List Int → List (S36) → Int → Int → Int → ByteArray → ByteArray → ByteArray → ByteArray → ByteArray → ByteArray → ByteArray → ByteArray → Option (ByteArray × ByteArray × Bool)
 | 0,_,_,_,_,_,_,_,_,_,_,_,_,_=>none
 | k + 1,x6,x7,x8,x11,x13,x145000,x145001,x146000,x146001,x146002,x146003,x146004,x146005=>if x13 < (x7.length:Int) then (if 0 ≤ x13 then (if (((((rd_T36 x7 x13).f0.f0).toList) == x146000.toList && ((((rd_T36 x7 x13).f0.f1).toList) == x146001.toList)) && (((((rd_T36 x7 x13).f1.f0).toList) == x146002.toList && ((((rd_T36 x7 x13).f1.f1).toList) == x146003.toList)) && (((((rd_T36 x7 x13).f2.f0).toList) == x146004.toList && ((((rd_T36 x7 x13).f2.f1).toList) == x146005.toList))))) = true then (if x13 ≤ (x6.length:Int) then ((spec_l06Told.f k (strOfNums (x6.take (x13:Int).toNat)) (strOfNums (x6.drop (x13:Int).toNat))).bind fun bt180=>(some (bt180.1,bt180.2.1,bt180.2.2))) else (none)) else (spec_l06Middle.l1 k x6 x7 x8 x11 (wrap64 (x13 + 1)) x145000 x145001 x146000 x146001 x146002 x146003 x146004 x146005)) else (none)) else (if x7.length < 1466015503701 then (if x6.length < 140737488355328 then (spec_l06Middle.l2 k (x6 ++ [x11]) (x7 ++ [(⟨(⟨x146000,x146001⟩:S27),(⟨x146002,x146003⟩:S27),(⟨x146004,x146005⟩:S27)⟩:S36)]) x8 x11 0 x145000 x145001 x146000 x146001 x146002 x146003 x146004 x146005) else (none)) else (none))
def spec_l06Middle.l2:Nat → List Int → List (S36) → Int → Int → Int → ByteArray → ByteArray → ByteArray → ByteArray → ByteArray → ByteArray → ByteArray → ByteArray → Option (ByteArray × ByteArray × Bool)
 | 0,_,_,_,_,_,_,_,_,_,_,_,_,_=>none
 | k + 1,x6,x7,x8,x11,x14,x145000,x145001,x146000,x146001,x146002,x146003,x146004,x146005=>if x14 < 3 then (if x14 = 0 then ((spec_l01At.f x146000 x146001 0).bind fun t189=>(if t189 = x11 then ((spec_l01Shift.f x146000 x146001).bind fun bt190=>(spec_l06Middle.l2 k x6 x7 x8 x11 (0 + 1) x145000 x145001 bt190.1 bt190.2 x146002 x146003 x146004 x146005)) else (if t189 = 42 then ((spec_l01Shift.f x146000 x146001).bind fun bt192=>(spec_l06Middle.l2 k x6 x7 x8 x11 (0 + 1) x145000 x145001 bt192.1 bt192.2 x146002 x146003 x146004 x146005)) else (spec_l06Middle.l2 k x6 x7 x8 x11 (0 + 1) x145000 x145001 x145000 x145001 x146002 x146003 x146004 x146005)))) else (if x14 = 1 then ((spec_l01At.f x146002 x146003 0).bind fun t194=>(if t194 = x11 then ((spec_l01Shift.f x146002 x146003).bind fun bt195=>(spec_l06Middle.l2 k x6 x7 x8 x11 (1 + 1) x145000 x145001 x146000 x146001 bt195.1 bt195.2 x146004 x146005)) else (if t194 = 42 then ((spec_l01Shift.f x146002 x146003).bind fun bt197=>(spec_l06Middle.l2 k x6 x7 x8 x11 (1 + 1) x145000 x145001 x146000 x146001 bt197.1 bt197.2 x146004 x146005)) else (spec_l06Middle.l2 k x6 x7 x8 x11 (1 + 1) x145000 x145001 x146000 x146001 x145000 x145001 x146004 x146005)))) else (if x14 = 2 then ((spec_l01At.f x146004 x146005 0).bind fun t199=>(if t199 = x11 then ((spec_l01Shift.f x146004 x146005).bind fun bt200=>(spec_l06Middle.l2 k x6 x7 x8 x11 (2 + 1) x145000 x145001 x146000 x146001 x146002 x146003 bt200.1 bt200.2)) else (if t199 = 42 then ((spec_l01Shift.f x146004 x146005).bind fun bt202=>(spec_l06Middle.l2 k x6 x7 x8 x11 (2 + 1) x145000 x145001 x146000 x146001 x146002 x146003 bt202.1 bt202.2)) else (spec_l06Middle.l2 k x6 x7 x8 x11 (2 + 1) x145000 x145001 x146000 x146001 x146002 x146003 x145000 x145001)))) else (none)))) else (spec_l06Middle.l0 k x6 x7 (wrap64 (x8 + 1)) x145000 x145001 x146000 x146001 x146002 x146003 x146004 x146005)
end
def spec_l06Middle.f (k:Nat) (a0_0:ByteArray) (a0_1:ByteArray) (a1_0:ByteArray) (a1_1:ByteArray) (a1_2:ByteArray) (a1_3:ByteArray) (a1_4:ByteArray) (a1_5:ByteArray):Option (ByteArray × ByteArray × Bool):=spec_l06Middle.l0 k (([]:List Int)) (([]:List (S36))) 0 a0_0 a0_1 a1_0 a1_1 a1_2 a1_3 a1_4 a1_5
theorem spec_l06Middle.mono_l:∀ k,(∀ y0 y1 y2 y3 y4 y5 y6 y7 y8 y9 y10,LeO (spec_l06Middle.l0 k y0 y1 y2 y3 y4 y5 y6 y7 y8 y9 y10) (spec_l06Middle.l0 (k + 1) y0 y1 y2 y3 y4 y5 y6 y7 y8 y9 y10)) ∧ (∀ y0 y1 y2 y3 y4 y5 y6 y7 y8 y9 y10 y11 y12,LeO (spec_l06Middle.l1 k y0 y1 y2 y3 y4 y5 y6 y7 y8 y9 y10 y11 y12) (spec_l06Middle.l1 (k + 1) y0 y1 y2 y3 y4 y5 y6 y7 y8 y9 y10 y11 y12)) ∧ (∀ y0 y1 y2 y3 y4 y5 y6 y7 y8 y9 y10 y11 y12,LeO (spec_l06Middle.l2 k y0 y1 y2 y3 y4 y5 y6 y7 y8 y9 y10 y11 y12) (spec_l06Middle.l2 (k + 1) y0 y1 y2 y3 y4 y5 y6 y7 y8 y9 y10 y11 y12))
 | 0=>⟨fun _ _ _ _ _ _ _ _ _ _ _ r h=>by simp [spec_l06Middle.l0] at h,fun _ _ _ _ _ _ _ _ _ _ _ _ _ r h=>by simp [spec_l06Middle.l1] at h,fun _ _ _ _ _ _ _ _ _ _ _ _ _ r h=>by simp [spec_l06Middle.l2] at h⟩
 | k + 1=>by
  obtain ⟨ih0,ih1,ih2⟩:=spec_l06Middle.mono_l k
  refine ⟨?_,?_,?_⟩
  ·intro y0 y1 y2 y3 y4 y5 y6 y7 y8 y9 y10
   unfold spec_l06Middle.l0
   repeat' first
   | (with_reducible exact ih0 _ _ _ _ _ _ _ _ _ _ _)
   | (with_reducible exact ih1 _ _ _ _ _ _ _ _ _ _ _ _ _)
   | (with_reducible exact ih2 _ _ _ _ _ _ _ _ _ _ _ _ _)
   | (with_reducible exact spec_l06Same.mono _ _ _ _ _ _ _)
   | (with_reducible exact spec_l06Told.mono _ _ _)
   | (with_reducible exact LeO.refl _)
   | (with_reducible exact LeO.none _)
   | (with_reducible refine LeO.ite ?_ ?_)
   | (with_reducible refine LeO.bind ?_ (fun _=>?_))
   | exact ih0 _ _ _ _ _ _ _ _ _ _ _
   | exact ih1 _ _ _ _ _ _ _ _ _ _ _ _ _
   | exact ih2 _ _ _ _ _ _ _ _ _ _ _ _ _
   | exact spec_l06Same.mono _ _ _ _ _ _ _
   | exact spec_l06Told.mono _ _ _
   | exact LeO.none _
   | refine LeO.ite ?_ ?_
   | refine LeO.bind ?_ (fun _=>?_)
  ·intro y0 y1 y2 y3 y4 y5 y6 y7 y8 y9 y10 y11 y12
   unfold spec_l06Middle.l1
   repeat' first
   | (with_reducible exact ih0 _ _ _ _ _ _ _ _ _ _ _)
   | (with_reducible exact ih1 _ _ _ _ _ _ _ _ _ _ _ _ _)
   | (with_reducible exact ih2 _ _ _ _ _ _ _ _ _ _ _ _ _)
   | (with_reducible exact spec_l06Same.mono _ _ _ _ _ _ _)
   | (with_reducible exact spec_l06Told.mono _ _ _)
   | (with_reducible exact LeO.refl _)
   | (with_reducible exact LeO.none _)
   | (with_reducible refine LeO.ite ?_ ?_)
   | (with_reducible refine LeO.bind ?_ (fun _=>?_))
   | exact ih0 _ _ _ _ _ _ _ _ _ _ _
   | exact ih1 _ _ _ _ _ _ _ _ _ _ _ _ _
   | exact ih2 _ _ _ _ _ _ _ _ _ _ _ _ _
   | exact spec_l06Same.mono _ _ _ _ _ _ _
   | exact spec_l06Told.mono _ _ _
   | exact LeO.none _
   | refine LeO.ite ?_ ?_
   | refine LeO.bind ?_ (fun _=>?_)
  ·intro y0 y1 y2 y3 y4 y5 y6 y7 y8 y9 y10 y11 y12
   unfold spec_l06Middle.l2
   repeat' first
   | (with_reducible exact ih0 _ _ _ _ _ _ _ _ _ _ _)
   | (with_reducible exact ih1 _ _ _ _ _ _ _ _ _ _ _ _ _)
   | (with_reducible exact ih2 _ _ _ _ _ _ _ _ _ _ _ _ _)
   | (with_reducible exact spec_l06Same.mono _ _ _ _ _ _ _)
   | (with_reducible exact spec_l06Told.mono _ _ _)
   | (with_reducible exact LeO.refl _)
   | (with_reducible exact LeO.none _)
   | (with_reducible refine LeO.ite ?_ ?_)
   | (with_reducible refine LeO.bind ?_ (fun _=>?_))
   | exact ih0 _ _ _ _ _ _ _ _ _ _ _
   | exact ih1 _ _ _ _ _ _ _ _ _ _ _ _ _
   | exact ih2 _ _ _ _ _ _ _ _ _ _ _ _ _
   | exact spec_l06Same.mono _ _ _ _ _ _ _
   | exact spec_l06Told.mono _ _ _
   | exact LeO.none _
   | refine LeO.ite ?_ ?_
   | refine LeO.bind ?_ (fun _=>?_)
theorem spec_l06Middle.mono:∀ a0 a1 a2 a3 a4 a5 a6 a7 k,LeO (spec_l06Middle.f k a0 a1 a2 a3 a4 a5 a6 a7) (spec_l06Middle.f (k + 1) a0 a1 a2 a3 a4 a5 a6 a7):=by
 intro a0 a1 a2 a3 a4 a5 a6 a7 k
 obtain ⟨ih0,ih1,ih2⟩:=spec_l06Middle.mono_l k
 unfold spec_l06Middle.f
 repeat' first
   | (with_reducible exact ih0 _ _ _ _ _ _ _ _ _ _ _)
   | (with_reducible exact ih1 _ _ _ _ _ _ _ _ _ _ _ _ _)
   | (with_reducible exact ih2 _ _ _ _ _ _ _ _ _ _ _ _ _)
   | (with_reducible exact spec_l06Same.mono _ _ _ _ _ _ _)
   | (with_reducible exact spec_l06Told.mono _ _ _)
   | (with_reducible exact LeO.refl _)
   | (with_reducible exact LeO.none _)
   | (with_reducible refine LeO.ite ?_ ?_)
   | (with_reducible refine LeO.bind ?_ (fun _=>?_))
   | exact ih0 _ _ _ _ _ _ _ _ _ _ _
   | exact ih1 _ _ _ _ _ _ _ _ _ _ _ _ _
   | exact ih2 _ _ _ _ _ _ _ _ _ _ _ _ _
   | exact spec_l06Same.mono _ _ _ _ _ _ _
   | exact spec_l06Told.mono _ _ _
   | exact LeO.none _
   | refine LeO.ite ?_ ?_
   | refine LeO.bind ?_ (fun _=>?_)
def spec_l06Middle.T10:Bool × List (List Nat × List Nat):=(true,[([],[]),([0],[0]),([],[]),([2],[2]),([3],[3]),([4],[4]),([1,5],[1,5]),([],[]),([7],[7]),([8],[8]),([9],[9]),([6,10],[6,10]),([11],[11]),([11],[11]),([12,11,0,1,2,3,4,5,6,7,8,9,10,11,12,13],[12]),([13,14,0,1,2,3,4,5,6,7,8,9,10,11,12,13,14],[13])])
def spec_l06Middle.B10:List Nat:=[0,1,0,4,12,28,63,0,128,384,896,2047,4095,4095,16383,32767]
theorem spec_l06Middle.tab10:rtab .any (opsOf Try.f13 10) = spec_l06Middle.T10:=by kernel_rfl
theorem spec_l06Middle.bits10:waitsOk spec_l06Middle.T10.2 spec_l06Middle.B10 = true:=by kernel_rfl
def spec_l06Middle.T15:Bool × List (List Nat × List Nat):=(true,[([],[]),([],[]),([0,1],[0,1]),([2],[2]),([],[]),([],[]),([4,5],[4,5]),([6],[6]),([3,7],[3,7]),([8],[8]),([8],[8]),([9,8,0,1,2,3,4,5,6,7,8,9,10],[9]),([10,11,0,1,2,3,4,5,6,7,8,9,10,11],[10])])
def spec_l06Middle.B15:List Nat:=[0,0,3,7,0,0,48,112,255,511,511,2047,4095]
theorem spec_l06Middle.tab15:rtab .any (opsOf Try.f13 15) = spec_l06Middle.T15:=by kernel_rfl
theorem spec_l06Middle.bits15:waitsOk spec_l06Middle.T15.2 spec_l06Middle.B15 = true:=by kernel_rfl
set_option maxHeartbeats 8000000 in
set_option maxRecDepth 100000 in
theorem spec_l06Middle.calls (k:Nat) (a0_0:ByteArray) (a0_1:ByteArray) (a1_0:ByteArray) (a1_1:ByteArray) (a1_2:ByteArray) (a1_3:ByteArray) (a1_4:ByteArray) (a1_5:ByteArray) (r1:ByteArray) (r2:ByteArray) (r3:Bool) (w:World) (h:spec_l06Middle.f k a0_0 a0_1 a1_0 a1_1 a1_2 a1_3 a1_4 a1_5 = some (r1,r2,r3)) :
  Calls Try.prog 13 #[.agg #[.string a0_0,.string a0_1],.agg #[.string a1_0,.string a1_1,.string a1_2,.string a1_3,.string a1_4,.string a1_5]] w fun e w'=>e = .returned (.tuple #[.agg #[.string r1,.string r2],.bool r3]) ∧ Below w.heap.size w w':=by
 have hu27:=Try.underlying27
 have hu36:=Try.underlying36
 have HB:=aM (Below.refl w.heap.size w)
 have H:(spec_l06Middle.l0 k (([]:List Int)) (([]:List (S36))) 0 a0_0 a0_1 a1_0 a1_1 a1_2 a1_3 a1_4 a1_5) = some (r1,r2,r3):=h
 clear h
 obtain ⟨y147,hy147⟩:∃ y_:List Int,y_ = (([]:List Int)):=⟨_,rfl⟩
 replace H:(spec_l06Middle.l0 k y147 (([]:List (S36))) 0 a0_0 a0_1 a1_0 a1_1 a1_2 a1_3 a1_4 a1_5) = some (r1,r2,r3):=by first|(rw [hy147];with_reducible exact H)|(have H2_:=(Option.bind_some _ _).symm.trans H;rw [hy147];with_reducible exact H2_)|(have H2_:=(Option.bind_some _ _).symm.trans H;with_reducible exact H2_)|with_reducible exact H|(rw [hy147];exact H)|exact H
 have Ny147:=aM hy147
 clear hy147
 obtain ⟨y150,hy150⟩:∃ y_:List (S36),y_ = (([]:List (S36))):=⟨_,rfl⟩
 replace H:(spec_l06Middle.l0 k y147 y150 0 a0_0 a0_1 a1_0 a1_1 a1_2 a1_3 a1_4 a1_5) = some (r1,r2,r3):=by first|(rw [hy150];with_reducible exact H)|(have H2_:=(Option.bind_some _ _).symm.trans H;rw [hy150];with_reducible exact H2_)|(have H2_:=(Option.bind_some _ _).symm.trans H;with_reducible exact H2_)|with_reducible exact H|(rw [hy150];exact H)|exact H
 have Ny150:=aM hy150
 clear hy150
 have H':=aM H
 clear H
 go_enter Try.func13,Try.ntmps13
 go_wp2_with (first|((with_reducible refine gate_dst (N:=2) rfl ?_);refine box_event ?hg (N:=2) ?hd (cs:=#[.string a0_0,.string a0_1]) (t:=27) ?hr ?_;(case hd=>rfl);(case hg=>rfl);(case hr=>first|(go_simp;done)|(go_simp;rfl));intro gb144 hg w3 hbox hb;have BK144:=aM (hbox);have GW144:=wl hg HB;have GE144:=wl hg HB;replace HB:=bs HB hb;clear hb hbox hg)|((with_reducible refine gate_dst (N:=3) rfl ?_);refine box_event ?hg (N:=3) ?hd (cs:=#[.string a1_0,.string a1_1,.string a1_2,.string a1_3,.string a1_4,.string a1_5]) (t:=36) ?hr ?_;(case hd=>rfl);(case hg=>rfl);(case hr=>first|(go_simp;done)|(go_simp;rfl));intro gb145 hg w4 hbox hb;have BK145:=aM (hbox);have GW145:=aM ((by rw [hg];exact (below_size (by first|exact bb HB|exact bg HB GE144)):w.heap.size ≤ gb145));have GE145:=aM ((by rw [hg];exact (below_size (by first|exact bb HB|exact bg HB GE144)):w.heap.size ≤ gb145));have NB144_145:=nl hg BK144;have NB145_144:=nr hg BK144;replace BK144:=kb BK144 hb;replace HB:=aM (below_step (by first|exact bb HB|exact bg HB GE144) hb);clear hb hbox hg)|((with_reducible refine gate_dst (N:=4) rfl ?_);refine box_event ?hg (N:=4) ?hd (cs:=#[.string ⟨#[]⟩,.string ⟨#[]⟩]) (t:=27) ?hr ?_;(case hd=>rfl);(case hg=>rfl);(case hr=>first|(go_simp;done)|(go_simp;rfl));intro gb146 hg w5 hbox hb;have BK146:=aM (hbox);have GW146:=aM ((by rw [hg];exact (below_size (by first|exact bb HB|exact bg HB GE144|exact bg HB GE145)):w.heap.size ≤ gb146));have GE146:=aM ((by rw [hg];exact (below_size (by first|exact bb HB|exact bg HB GE144|exact bg HB GE145)):w.heap.size ≤ gb146));have NB144_146:=nl hg BK144;have NB146_144:=nr hg BK144;have NB145_146:=nl hg BK145;have NB146_145:=nr hg BK145;replace BK144:=kb BK144 hb;replace BK145:=kb BK145 hb;replace HB:=aM (below_step (by first|exact bb HB|exact bg HB GE144|exact bg HB GE145) hb);clear hb hbox hg)|((with_reducible refine gate_dst (N:=16) rfl ?_);refine Kd.R_lit (Kd.int .u8) _ 5 ?hg (N:=16) ?hd (xs:=([]:List Int)) (inner:=[]) (ok:=fun _=>True) (okp:=fun _=>True) ?hr ?hp (fun _ hk=>hk) trivial (Below.refl _ _) (Nat.le_refl _) (by simp) ?_;(case hd=>rfl);(case hg=>rfl);(case hr=>first|(go_simp;done)|(go_simp;rfl));(case hp=>exact (Reps.none _ _));intro v148 w6 ho7 hb hg_ hnew_;clear hg_ hnew_;(first|rw [← Ny147.out] at ho7|(simp only [Int.reduceToNat] at ho7;rw [← Ny147.out] at ho7));have HO149:=aM (Kd.R_lower ho7 (below_size (by first|exact bb HB|exact bg HB GE144|exact bg HB GE145|exact bg HB GE146)));replace BK144:=kb BK144 hb;replace BK145:=kb BK145 hb;replace BK146:=kb BK146 hb;replace HB:=aM (below_step (by first|exact bb HB|exact bg HB GE144|exact bg HB GE145|exact bg HB GE146) hb);clear hb ho7)|((with_reducible refine gate_dst (N:=17) rfl ?_);refine Kd.R_lit k36 _ 36 ?hg (N:=17) ?hd (xs:=([]:List (S36))) (inner:=[]) (ok:=fun _=>True) (okp:=fun _=>True) ?hr ?hp (fun _ hk=>hk) trivial (Below.refl _ _) (Nat.le_refl _) (by simp) ?_;(case hd=>rfl);(case hg=>rfl);(case hr=>first|(go_simp;done)|(go_simp;rfl));(case hp=>exact (Reps.none _ _));intro v151 w8 ho9 hb hg_ hnew_;clear hg_ hnew_;(first|rw [← Ny150.out] at ho9|(simp only [Int.reduceToNat] at ho9;rw [← Ny150.out] at ho9));have HO152:=aM (Kd.R_lower (Kd.R_newB ho9 (g:=gb145) (o:=.cells #[.string a1_0,.string a1_1,.string a1_2,.string a1_3,.string a1_4,.string a1_5] 36 (0,0)) (bk BK145)) (below_size (by first|exact bb HB|exact bg HB GE144|exact bg HB GE145|exact bg HB GE146)));replace HO149:=ko HO149 hb;replace BK144:=kb BK144 hb;replace BK145:=kb BK145 hb;replace BK146:=kb BK146 hb;replace HB:=aM (below_step (by first|exact bb HB|exact bg HB GE144|exact bg HB GE145|exact bg HB GE146) hb);clear hb ho9))
 go_loopg [6,7,8] k (fun kq v6 v7 v8 w'=>∃ (x6_1:List Int) (x7_1:List (S36)) (x8_1:Int) (x146000_1:ByteArray) (x146001_1:ByteArray) (x146002_1:ByteArray) (x146003_1:ByteArray) (x146004_1:ByteArray) (x146005_1:ByteArray) (x147000_1:ByteArray) (x147001_1:ByteArray),v8 = .int .i64 x8_1 ∧ Aside0 (spec_l06Middle.l0 kq x6_1 x7_1 x8_1 a0_0 a0_1 x146000_1 x146001_1 x146002_1 x146003_1 x146004_1 x146005_1 = some (r1,r2,r3)) ∧ Aside0 (kq ≤ k) ∧ Aside0 (Kd.R (Kd.int .u8) 5 w' w.heap.size (fun _=>True) v6 x6_1) ∧ Aside0 (Kd.R k36 36 w' w.heap.size (fun k_=>k_ ≠ gb145) v7 x7_1) ∧ Aside0 (w'.heap[gb144]? = some (.cells #[.string a0_0,.string a0_1] 27 (0,0))) ∧ Aside0 (w'.heap[gb145]? = some (.cells #[.string x146000_1,.string x146001_1,.string x146002_1,.string x146003_1,.string x146004_1,.string x146005_1] 36 (0,0))) ∧ Aside0 (w'.heap[gb146]? = some (.cells #[.string x147000_1,.string x147001_1] 27 (0,0))) ∧ Aside0 (Below w.heap.size w w'))
 case atStart=>exact ⟨(y147),(y150),(0),(a1_0),(a1_1),(a1_2),(a1_3),(a1_4),(a1_5),((⟨#[]⟩:ByteArray)),((⟨#[]⟩:ByteArray)),(by first|rfl|(simp;done)|(simp [*];done)),H',⟨Nat.le_refl _⟩,⟨rk HO149⟩,⟨by (with_reducible repeat (first|apply rA|apply rN|apply rD));exact Kd.R_mono HO152.out (fun _ hk=>hk.2)⟩,⟨bk BK144⟩,⟨bk BK145⟩,⟨bk BK146⟩,⟨by first|exact bb HB|exact bg HB GE144|exact bg HB GE145|exact bg HB GE146⟩⟩
 case round =>
  clear H'
  try clear c1
  try clear p2
  obtain ⟨x6_1,x7_1,x8_1,x146000_1,x146001_1,x146002_1,x146003_1,x146004_1,x146005_1,x147000_1,x147001_1,rfl,HA,HK1,HO_6,HO_7,BK144,BK145,BK146,HB⟩:=hrel
  cases gk with
  | zero=>exact absurd HA.out (by simp [spec_l06Middle.l0])
  | succ k1 =>
   have H:=HA.out
   clear HA
   simp only [spec_l06Middle.l0] at H
   by_cases c10:x8_1 ≤ 600
   ·rw [if_pos c10] at H
    have c10b0:decide (x8_1 ≤ 600) = true:=decide_eq_true c10
    clear c10
    replace H:=Option.bind_eq_some_iff.mp H
    obtain ⟨⟨t153,t154,t155⟩,A110,H⟩:=H
    replace H:(if t155 = true then (if (strOfNums x6_1).size + t153.size ≤ 9223372036854775807 then ((spec_l06Told.f k1 ((strOfNums x6_1) ++ t153) t154).bind fun bt157=>(some (bt157.1,bt157.2.1,bt157.2.2))) else (none)) else ((spec_l06Letters.f x146000_1 x146001_1 x146002_1 x146003_1 x146004_1 x146005_1).bind fun bt160=>(if bt160.2 ≥ 0 then (if bt160.2 = 0 then (if (strOfNums x6_1).size + x146000_1.size ≤ 9223372036854775807 then ((spec_l06Told.f k1 ((strOfNums x6_1) ++ x146000_1) x146001_1).bind fun bt162=>(some (bt162.1,bt162.2.1,bt162.2.2))) else (none)) else (if bt160.2 = 1 then (if (strOfNums x6_1).size + x146002_1.size ≤ 9223372036854775807 then ((spec_l06Told.f k1 ((strOfNums x6_1) ++ x146002_1) x146003_1).bind fun bt165=>(some (bt165.1,bt165.2.1,bt165.2.2))) else (none)) else (if bt160.2 = 2 then (if (strOfNums x6_1).size + x146004_1.size ≤ 9223372036854775807 then ((spec_l06Told.f k1 ((strOfNums x6_1) ++ x146004_1) x146005_1).bind fun bt168=>(some (bt168.1,bt168.2.1,bt168.2.2))) else (none)) else (none)))) else (spec_l06Middle.l1 k1 x6_1 x7_1 x8_1 bt160.1 0 a0_0 a0_1 x146000_1 x146001_1 x146002_1 x146003_1 x146004_1 x146005_1)))) = some (r1,r2,r3):=H;have A11:=aM A110
    clear A110
    by_cases c12:t155 = true
    ·subst c12
     have H1:(if (strOfNums x6_1).size + t153.size ≤ 9223372036854775807 then ((spec_l06Told.f k1 ((strOfNums x6_1) ++ t153) t154).bind fun bt157=>(some (bt157.1,bt157.2.1,bt157.2.2))) else (none)) = some (r1,r2,r3):=by rw [if_pos rfl] at H;exact H
     clear H
     have H:=H1
     clear H1
     by_cases c13:(strOfNums x6_1).size + t153.size ≤ 9223372036854775807
     ·rw [if_pos c13] at H
      have c13b0:=eq_true c13
      have c13b1:decide ((strOfNums x6_1).size + t153.size ≤ 9223372036854775807) = true:=decide_eq_true c13
      try have c13b2:(9223372036854775807 < (strOfNums x6_1).size + t153.size) = False:=eq_false (Nat.not_lt.2 c13)
      replace H:=Option.bind_eq_some_iff.mp H
      obtain ⟨⟨t157,t158,t159⟩,A140,H⟩:=H
      replace H:(some (t157,t158,t159)) = some (r1,r2,r3):=H;have A14:=aM A140
      clear A140
      simp only [Option.some.injEq,Prod.mk.injEq] at H
      obtain ⟨rfl,rfl,rfl⟩:=H
      have hnb15:=NB145_144.out
      have hnc15:=NB144_145.out
      have hnb16:=NB145_146.out
      have hnc16:=NB146_145.out
      have⟨a0,a1,a2,a3,a4,a5,b0,b1,b2,b3,b4,b5⟩:=q6f BK145
      go_wp2_with (first|((with_reducible refine gate_callee (f:=17) rfl ?_);refine goesL_ (some 24) rfl rfl Try.func17 (by kernel_rfl) rfl #[.agg #[.string x146000_1,.string x146001_1,.string x146002_1,.string x146003_1,.string x146004_1,.string x146005_1]] rfl (by (try simp only [sM,sC,sN]);first|done|rfl|(simp only [List.length_drop,List.length_take];rfl)) ?_;(with_reducible refine (spec_l06Same.calls k1 x146000_1 x146001_1 x146002_1 x146003_1 x146004_1 x146005_1 t153 t154 true _ A11.out).mono ?_);rintro e w18 ⟨rfl,hb⟩;refine ⟨_,rfl,?_⟩;replace HO_6:=ko HO_6 hb;replace HO_7:=ko HO_7 hb;replace BK144:=kb BK144 hb;replace BK145:=kb BK145 hb;replace BK146:=kb BK146 hb;replace HB:=aM (below_step (by first|exact bb HB|exact bg HB GE144|exact bg HB GE145|exact bg HB GE146) hb);(try clear hb))|((with_reducible refine gate_dst (N:=9) rfl ?_);refine box_event ?hg (N:=9) ?hd (cs:=#[.string ⟨#[]⟩,.string ⟨#[]⟩]) (t:=27) ?hr ?_;(case hd=>rfl);(case hg=>rfl);(case hr=>first|(go_simp;done)|(go_simp;rfl));intro gb156 hg w19 hbox hb;have BK156:=aM (hbox);have GW156:=aM ((by rw [hg];exact (below_size (by first|exact bb HB|exact bg HB GE144|exact bg HB GE145|exact bg HB GE146)):w.heap.size ≤ gb156));have GE156:=aM ((by rw [hg];exact (below_size (by first|exact bb HB|exact bg HB GE144|exact bg HB GE145|exact bg HB GE146)):w.heap.size ≤ gb156));have NB144_156:=nl hg BK144;have NB156_144:=nr hg BK144;have NB145_156:=nl hg BK145;have NB156_145:=nr hg BK145;have NB146_156:=nl hg BK146;have NB156_146:=nr hg BK146;replace HO_6:=ko HO_6 hb;replace HO_7:=ko HO_7 hb;replace BK144:=kb BK144 hb;replace BK145:=kb BK145 hb;replace BK146:=kb BK146 hb;replace HB:=aM (below_step (by first|exact bb HB|exact bg HB GE144|exact bg HB GE145|exact bg HB GE146) hb);clear hb hbox hg;have hnb20:=NB156_144.out;have hnc20:=NB144_156.out;have hnb21:=NB156_145.out;have hnc21:=NB145_156.out;have hnb22:=NB156_146.out;have hnc22:=NB146_156.out;have⟨a0,a1,b0,b1⟩:=q2f BK156;have hcv24:=own_string (P:=Try.prog) Try.underlying42 Try.underlying5 Try.underlying9 (Kd.own_of_R (Kd.R_set (Kd.R_set HO_6.out BK156.out (by decide) 0 (.string t153)) (blk_put (cs':=#[.string t153,.string ⟨#[]⟩]) BK156.out 0 (.string t153) rfl) (by decide) 1 (.string t154))))|((with_reducible refine gate_callee (f:=18) rfl ?_);refine goesL_ (some 35) rfl rfl Try.func18 (by kernel_rfl) rfl #[.string ((strOfNums x6_1) ++ t153),.string t154] rfl (by (try simp only [sM,sC,sN]);first|done|rfl|(simp only [List.length_drop,List.length_take];rfl)) ?_;(with_reducible refine (spec_l06Told.calls k1 ((strOfNums x6_1) ++ t153) t154 t157 t158 t159 _ A14.out).mono ?_);rintro e w25 ⟨rfl,hb⟩;refine ⟨_,rfl,?_⟩;replace HO_6:=aM (Kd.R_below (by (with_reducible repeat (first|apply rA|apply rN|apply rD));exact (Kd.R_mono (Kd.R_far (p:=⟨gb156,1,none⟩) (Kd.R_far (p:=⟨gb156,0,none⟩) (Kd.R_types HO_6.out BK156.out (by decide)) (fun _ hk=>hk.2) (.string t153)) (fun _ hk=>hk.2) (.string t154)) (fun _ h_=>h_.1))) hb);replace HO_7:=aM (Kd.R_below (by (with_reducible repeat (first|apply rA|apply rN|apply rD));exact (Kd.R_mono (Kd.R_far (p:=⟨gb156,1,none⟩) (Kd.R_far (p:=⟨gb156,0,none⟩) (Kd.R_types HO_7.out BK156.out (by decide)) (fun _ hk=>hk.2) (.string t153)) (fun _ hk=>hk.2) (.string t154)) (fun _ h_=>h_.1))) hb);replace BK144:=kf BK144 NB144_156 hb;replace BK145:=kf BK145 NB145_156 hb;replace BK146:=kf BK146 NB146_156 hb;replace BK156:=aM (blk_below (g:=gb156) (o:=.cells #[.string t153,.string t154] 27 (0,0)) (by (with_reducible repeat (first|apply yN|apply yD|apply yA));refine blk_put (cs:=#[.string t153,.string ⟨#[]⟩]) ?_ 1 _ rfl;(with_reducible repeat (first|apply yN|apply yD|apply yA));refine blk_put (cs:=#[.string ⟨#[]⟩,.string ⟨#[]⟩]) ?_ 0 _ rfl;(with_reducible repeat (first|apply yN|apply yD|apply yA));exact BK156.out) hb);replace HB:=aM (below_step (by first|exact bb HB|exact bg HB GE144|exact bg HB GE145|exact bg HB GE146|exact bg HB GE156) hb);(try clear hb);have hnb26:=NB146_144.out;have hnc26:=NB144_146.out;have⟨a0,a1,b0,b1⟩:=q2f BK146))
      refine bodyPost_ret (results_ct rfl _ _ gb146 27 #[.string t157,.string t158] (0,0) _ rfl (by (with_reducible repeat (first|apply yN|apply yD|apply yA));refine blk_put (cs:=#[.string t157,.string x147001_1]) ?_ 1 _ rfl;(with_reducible repeat (first|apply yN|apply yD|apply yA));refine blk_put (cs:=#[.string x147000_1,.string x147001_1]) ?_ 0 _ rfl;(with_reducible repeat (first|apply yN|apply yD|apply yA));exact BK146.out) Try.underlying27 rfl (by kernel_rfl)) rfl ?_
      exact ⟨by first|rfl|(simp [errW_none,errW_some] <;> rfl)|(simp [*,errW_none,errW_some] <;> rfl),by first|exact bb HB|exact bg HB GE144|exact bg HB GE145|exact bg HB GE146|exact bg HB GE156⟩
     ·rw [if_neg c13] at H
      exact absurd H (by simp)
    ·replace c12:=Bool.eq_false_iff.mpr c12
     subst c12
     have H1:((spec_l06Letters.f x146000_1 x146001_1 x146002_1 x146003_1 x146004_1 x146005_1).bind fun bt160=>(if bt160.2 ≥ 0 then (if bt160.2 = 0 then (if (strOfNums x6_1).size + x146000_1.size ≤ 9223372036854775807 then ((spec_l06Told.f k1 ((strOfNums x6_1) ++ x146000_1) x146001_1).bind fun bt162=>(some (bt162.1,bt162.2.1,bt162.2.2))) else (none)) else (if bt160.2 = 1 then (if (strOfNums x6_1).size + x146002_1.size ≤ 9223372036854775807 then ((spec_l06Told.f k1 ((strOfNums x6_1) ++ x146002_1) x146003_1).bind fun bt165=>(some (bt165.1,bt165.2.1,bt165.2.2))) else (none)) else (if bt160.2 = 2 then (if (strOfNums x6_1).size + x146004_1.size ≤ 9223372036854775807 then ((spec_l06Told.f k1 ((strOfNums x6_1) ++ x146004_1) x146005_1).bind fun bt168=>(some (bt168.1,bt168.2.1,bt168.2.2))) else (none)) else (none)))) else (spec_l06Middle.l1 k1 x6_1 x7_1 x8_1 bt160.1 0 a0_0 a0_1 x146000_1 x146001_1 x146002_1 x146003_1 x146004_1 x146005_1))) = some (r1,r2,r3):=by rw [if_neg (show ¬ (false = true) by decide)] at H;exact H
     clear H
     have H:=H1
     clear H1
     replace H:=Option.bind_eq_some_iff.mp H
     obtain ⟨⟨t160,t161⟩,A280,H⟩:=H
     replace H:(if t161 ≥ 0 then (if t161 = 0 then (if (strOfNums x6_1).size + x146000_1.size ≤ 9223372036854775807 then ((spec_l06Told.f k1 ((strOfNums x6_1) ++ x146000_1) x146001_1).bind fun bt162=>(some (bt162.1,bt162.2.1,bt162.2.2))) else (none)) else (if t161 = 1 then (if (strOfNums x6_1).size + x146002_1.size ≤ 9223372036854775807 then ((spec_l06Told.f k1 ((strOfNums x6_1) ++ x146002_1) x146003_1).bind fun bt165=>(some (bt165.1,bt165.2.1,bt165.2.2))) else (none)) else (if t161 = 2 then (if (strOfNums x6_1).size + x146004_1.size ≤ 9223372036854775807 then ((spec_l06Told.f k1 ((strOfNums x6_1) ++ x146004_1) x146005_1).bind fun bt168=>(some (bt168.1,bt168.2.1,bt168.2.2))) else (none)) else (none)))) else (spec_l06Middle.l1 k1 x6_1 x7_1 x8_1 t160 0 a0_0 a0_1 x146000_1 x146001_1 x146002_1 x146003_1 x146004_1 x146005_1)) = some (r1,r2,r3):=H;have A28:=aM A280
     clear A280
     by_cases c29:t161 ≥ 0
     ·rw [if_pos c29] at H
      have c29b0:decide (0 ≤ t161) = true:=decide_eq_true c29
      clear c29
      by_cases c30:t161 = 0
      ·subst c30
       have H1:(if (strOfNums x6_1).size + x146000_1.size ≤ 9223372036854775807 then ((spec_l06Told.f k1 ((strOfNums x6_1) ++ x146000_1) x146001_1).bind fun bt162=>(some (bt162.1,bt162.2.1,bt162.2.2))) else (none)) = some (r1,r2,r3):=by rw [if_pos rfl] at H;exact H
       clear H
       have H:=H1
       clear H1
       by_cases c31:(strOfNums x6_1).size + x146000_1.size ≤ 9223372036854775807
       ·rw [if_pos c31] at H
        have c31b0:=eq_true c31
        have c31b1:decide ((strOfNums x6_1).size + x146000_1.size ≤ 9223372036854775807) = true:=decide_eq_true c31
        try have c31b2:(9223372036854775807 < (strOfNums x6_1).size + x146000_1.size) = False:=eq_false (Nat.not_lt.2 c31)
        replace H:=Option.bind_eq_some_iff.mp H
        obtain ⟨⟨t162,t163,t164⟩,A320,H⟩:=H
        replace H:(some (t162,t163,t164)) = some (r1,r2,r3):=H;have A32:=aM A320
        clear A320
        simp only [Option.some.injEq,Prod.mk.injEq] at H
        obtain ⟨rfl,rfl,rfl⟩:=H
        have hnb33:=NB145_144.out
        have hnc33:=NB144_145.out
        have hnb34:=NB145_146.out
        have hnc34:=NB146_145.out
        have⟨a0,a1,a2,a3,a4,a5,b0,b1,b2,b3,b4,b5⟩:=q6f BK145
        try go_wp2_with (first|((with_reducible refine gate_callee (f:=17) rfl ?_);refine goesL_ (some 24) rfl rfl Try.func17 (by kernel_rfl) rfl #[.agg #[.string x146000_1,.string x146001_1,.string x146002_1,.string x146003_1,.string x146004_1,.string x146005_1]] rfl (by (try simp only [sM,sC,sN]);first|done|rfl|(simp only [List.length_drop,List.length_take];rfl)) ?_;(with_reducible refine (spec_l06Same.calls k1 x146000_1 x146001_1 x146002_1 x146003_1 x146004_1 x146005_1 t153 t154 false _ A11.out).mono ?_);rintro e w36 ⟨rfl,hb⟩;refine ⟨_,rfl,?_⟩;replace HO_6:=ko HO_6 hb;replace HO_7:=ko HO_7 hb;replace BK144:=kb BK144 hb;replace BK145:=kb BK145 hb;replace BK146:=kb BK146 hb;replace HB:=aM (below_step (by first|exact bb HB|exact bg HB GE144|exact bg HB GE145|exact bg HB GE146) hb);(try clear hb))|((with_reducible refine gate_dst (N:=9) rfl ?_);refine box_event ?hg (N:=9) ?hd (cs:=#[.string ⟨#[]⟩,.string ⟨#[]⟩]) (t:=27) ?hr ?_;(case hd=>rfl);(case hg=>rfl);(case hr=>first|(go_simp;done)|(go_simp;rfl));intro gb156 hg w37 hbox hb;have BK156:=aM (hbox);have GW156:=aM ((by rw [hg];exact (below_size (by first|exact bb HB|exact bg HB GE144|exact bg HB GE145|exact bg HB GE146)):w.heap.size ≤ gb156));have GE156:=aM ((by rw [hg];exact (below_size (by first|exact bb HB|exact bg HB GE144|exact bg HB GE145|exact bg HB GE146)):w.heap.size ≤ gb156));have NB144_156:=nl hg BK144;have NB156_144:=nr hg BK144;have NB145_156:=nl hg BK145;have NB156_145:=nr hg BK145;have NB146_156:=nl hg BK146;have NB156_146:=nr hg BK146;replace HO_6:=ko HO_6 hb;replace HO_7:=ko HO_7 hb;replace BK144:=kb BK144 hb;replace BK145:=kb BK145 hb;replace BK146:=kb BK146 hb;replace HB:=aM (below_step (by first|exact bb HB|exact bg HB GE144|exact bg HB GE145|exact bg HB GE146) hb);clear hb hbox hg;have hnb38:=NB156_144.out;have hnc38:=NB144_156.out;have hnb39:=NB156_145.out;have hnc39:=NB145_156.out;have hnb40:=NB156_146.out;have hnc40:=NB146_156.out;have⟨a0,a1,b0,b1⟩:=q2f BK156;have⟨a0,a1,a2,a3,a4,a5,b0,b1,b2,b3,b4,b5⟩:=q6f BK145)|((with_reducible refine gate_callee (f:=19) rfl ?_);refine goesL_ (some 40) rfl rfl Try.func19 (by kernel_rfl) rfl #[.agg #[.string x146000_1,.string x146001_1,.string x146002_1,.string x146003_1,.string x146004_1,.string x146005_1]] rfl (by (try simp only [sM,sC,sN]);first|done|rfl|(simp only [List.length_drop,List.length_take];rfl)) ?_;(with_reducible refine (spec_l06Letters.calls x146000_1 x146001_1 x146002_1 x146003_1 x146004_1 x146005_1 t160 0 _ A28.out).mono ?_);rintro e w43 ⟨rfl,hb⟩;refine ⟨_,rfl,?_⟩;replace HO_6:=aM (Kd.R_below (by (with_reducible repeat (first|apply rA|apply rN|apply rD));exact (Kd.R_mono (Kd.R_far (p:=⟨gb156,1,none⟩) (Kd.R_far (p:=⟨gb156,0,none⟩) (Kd.R_types HO_6.out BK156.out (by decide)) (fun _ hk=>hk.2) (.string t153)) (fun _ hk=>hk.2) (.string t154)) (fun _ h_=>h_.1))) hb);replace HO_7:=aM (Kd.R_below (by (with_reducible repeat (first|apply rA|apply rN|apply rD));exact (Kd.R_mono (Kd.R_far (p:=⟨gb156,1,none⟩) (Kd.R_far (p:=⟨gb156,0,none⟩) (Kd.R_types HO_7.out BK156.out (by decide)) (fun _ hk=>hk.2) (.string t153)) (fun _ hk=>hk.2) (.string t154)) (fun _ h_=>h_.1))) hb);replace BK144:=kf BK144 NB144_156 hb;replace BK145:=kf BK145 NB145_156 hb;replace BK146:=kf BK146 NB146_156 hb;replace BK156:=aM (blk_below (g:=gb156) (o:=.cells #[.string t153,.string t154] 27 (0,0)) (by (with_reducible repeat (first|apply yN|apply yD|apply yA));refine blk_put (cs:=#[.string t153,.string ⟨#[]⟩]) ?_ 1 _ rfl;(with_reducible repeat (first|apply yN|apply yD|apply yA));refine blk_put (cs:=#[.string ⟨#[]⟩,.string ⟨#[]⟩]) ?_ 0 _ rfl;(with_reducible repeat (first|apply yN|apply yD|apply yA));exact BK156.out) hb);replace HB:=aM (below_step (by first|exact bb HB|exact bg HB GE144|exact bg HB GE145|exact bg HB GE146|exact bg HB GE156) hb);(try clear hb)))
        replace HO_6:=aM (rD HO_6.out);replace HO_7:=aM (rD HO_7.out);replace BK144:=aM (yD BK144.out);replace BK145:=aM (yD BK145.out);replace BK146:=aM (yD BK146.out);replace BK156:=aM (yD BK156.out);replace HB:=aM (zD HB.out)
        have hcv45:=own_string (P:=Try.prog) Try.underlying42 Try.underlying5 Try.underlying9 (Kd.own_of_R HO_6.out)
        refine start_ (n:=16) (S:=fun w'=>w'.cell? ⟨gb145,0,none⟩ = some (.string x146000_1) ∧ w'.cell? ⟨gb145,1,none⟩ = some (.string x146001_1) ∧ w'.cell? ⟨gb145,2,none⟩ = some (.string x146002_1) ∧ w'.cell? ⟨gb145,3,none⟩ = some (.string x146003_1) ∧ w'.cell? ⟨gb145,4,none⟩ = some (.string x146004_1) ∧ w'.cell? ⟨gb145,5,none⟩ = some (.string x146005_1) ∧ (convert 42 9 u6).run Try.prog w' = .ok (.string (strOfNums x6_1)) w') (ds:=[14]) #[fF,fF,fF,fF,fF,fF,fF,fF,fF,fF,fF,fF,fF,fF,fF,fF] (by kernel_rfl) rfl rfl ⟨(blk_cell BK145.out 0).trans rfl,(blk_cell BK145.out 1).trans rfl,(blk_cell BK145.out 2).trans rfl,(blk_cell BK145.out 3).trans rfl,(blk_cell BK145.out 4).trans rfl,(blk_cell BK145.out 5).trans rfl,hcv45⟩ (fun hHeld=>?_);refine with_tabW spec_l06Middle.tab10 spec_l06Middle.bits10 (fun HT_ HW_=>?_)
        generalize w43.drew = w44 at HO_6 HO_7 BK144 BK145 BK146 BK156 HB hHeld ⊢
        refine pure_ (i:=0) (N:=some 45) (v:=?_) (a':=?_) #[tT,fF,fF,fF,fF,fF,fF,fF,fF,fF,fF,fF,fF,fF,fF,fF] rfl rfl (any_of HT_.out (by kernel_rfl)) (fun _ _ _ h=>h) (Or.inl ⟨by rfl,?_⟩) ?_ ?_
        rotate_left
        ·intro w'
         go_simp
         with_reducible rfl
        rotate_left
        ·simp only [Act.put,sI,sZ,sS,i64_w,i32_w]
         rfl
        refine take_ (i:=1) (N:=some 46) (v:=?_) (a':=?_) #[tT,tT,fF,fF,fF,fF,fF,fF,fF,fF,fF,fF,fF,fF,fF,fF] rfl rfl (take_ofW HT_.out HW_.out (by kernel_rfl)) (fun _ _ _ h=>h) (Or.inl ⟨by rfl,?_⟩) hHeld ?_ ?_
        rotate_left
        ·rintro w' ⟨s0,s1,s2,s3,s4,s5,s6⟩
         first|(go_simp;rw [s6];rfl)|(go_simp;with_reducible rfl)|(simp only [s6];rfl)
        rotate_left
        ·simp only [Act.put,sI,sZ,sS,i64_w,i32_w]
         rfl
        refine pure_ (i:=2) (N:=some 47) (v:=?_) (a':=?_) #[tT,tT,tT,fF,fF,fF,fF,fF,fF,fF,fF,fF,fF,fF,fF,fF] rfl rfl (any_of HT_.out (by kernel_rfl)) (fun _ _ _ h=>h) (Or.inl ⟨by rfl,?_⟩) ?_ ?_
        rotate_left
        ·intro w'
         go_simp
         with_reducible rfl
        rotate_left
        ·simp only [Act.put,sI,sZ,sS,i64_w,i32_w]
         rfl
        refine pure_ (i:=3) (N:=some 48) (v:=?_) (a':=?_) #[tT,tT,tT,tT,fF,fF,fF,fF,fF,fF,fF,fF,fF,fF,fF,fF] rfl rfl (any_of HT_.out (by kernel_rfl)) (fun _ _ _ h=>h) (Or.inl ⟨by rfl,?_⟩) ?_ ?_
        rotate_left
        ·intro w'
         go_simp
         with_reducible rfl
        rotate_left
        ·simp only [Act.put,sI,sZ,sS,i64_w,i32_w]
         rfl
        refine pure_ (i:=4) (N:=some 49) (v:=?_) (a':=?_) #[tT,tT,tT,tT,tT,fF,fF,fF,fF,fF,fF,fF,fF,fF,fF,fF] rfl rfl (any_of HT_.out (by kernel_rfl)) (fun _ _ _ h=>h) (Or.inl ⟨by rfl,?_⟩) ?_ ?_
        rotate_left
        ·intro w'
         go_simp
         with_reducible rfl
        rotate_left
        ·simp only [Act.put,sI,sZ,sS,i64_w,i32_w]
         rfl
        refine pure_ (i:=7) (N:=some 52) (v:=?_) (a':=?_) #[tT,tT,tT,tT,tT,fF,fF,tT,fF,fF,fF,fF,fF,fF,fF,fF] rfl rfl (any_of HT_.out (by kernel_rfl)) (fun _ _ _ h=>h) (Or.inl ⟨by rfl,?_⟩) ?_ ?_
        rotate_left
        ·intro w'
         go_simp
         with_reducible rfl
        rotate_left
        ·simp only [Act.put,sI,sZ,sS,i64_w,i32_w]
         rfl
        refine pure_ (i:=8) (N:=some 53) (v:=?_) (a':=?_) #[tT,tT,tT,tT,tT,fF,fF,tT,tT,fF,fF,fF,fF,fF,fF,fF] rfl rfl (any_of HT_.out (by kernel_rfl)) (fun _ _ _ h=>h) (Or.inl ⟨by rfl,?_⟩) ?_ ?_
        rotate_left
        ·intro w'
         go_simp
         with_reducible rfl
        rotate_left
        ·simp only [Act.put,sI,sZ,sS,i64_w,i32_w]
         rfl
        refine pure_ (i:=9) (N:=some 54) (v:=?_) (a':=?_) #[tT,tT,tT,tT,tT,fF,fF,tT,tT,tT,fF,fF,fF,fF,fF,fF] rfl rfl (any_of HT_.out (by kernel_rfl)) (fun _ _ _ h=>h) (Or.inl ⟨by rfl,?_⟩) ?_ ?_
        rotate_left
        ·intro w'
         go_simp
         with_reducible rfl
        rotate_left
        ·simp only [Act.put,sI,sZ,sS,i64_w,i32_w]
         rfl
        refine take_ (i:=5) (N:=some 50) (v:=?_) (a':=?_) #[tT,tT,tT,tT,tT,tT,fF,tT,tT,tT,fF,fF,fF,fF,fF,fF] rfl rfl (take_ofW HT_.out HW_.out (by kernel_rfl)) (fun _ _ _ h=>h) (Or.inl ⟨by rfl,?_⟩) hHeld ?_ ?_
        rotate_left
        ·rintro w' ⟨s0,s1,s2,s3,s4,s5,s6⟩
         go_simp
         with_reducible rfl
        rotate_left
        ·simp only [Act.put,sI,sZ,sS,i64_w,i32_w]
         rfl
        refine pure_ (i:=6) (N:=some 51) (v:=?_) (a':=?_) #[tT,tT,tT,tT,tT,tT,tT,tT,tT,tT,fF,fF,fF,fF,fF,fF] rfl rfl (any_of HT_.out (by kernel_rfl)) (fun _ _ _ h=>h) (Or.inl ⟨by rfl,?_⟩) ?_ ?_
        rotate_left
        ·intro w'
         go_simp
         with_reducible rfl
        rotate_left
        ·simp only [Act.put,sI,sZ,sS,i64_w,i32_w]
         rfl
        refine take_ (i:=10) (N:=some 55) (v:=?_) (a':=?_) #[tT,tT,tT,tT,tT,tT,tT,tT,tT,tT,tT,fF,fF,fF,fF,fF] rfl rfl (take_ofW HT_.out HW_.out (by kernel_rfl)) (fun _ _ _ h=>h) (Or.inl ⟨by rfl,?_⟩) hHeld ?_ ?_
        rotate_left
        ·rintro w' ⟨s0,s1,s2,s3,s4,s5,s6⟩
         go_simp
         with_reducible rfl
        rotate_left
        ·simp only [Act.put,sI,sZ,sS,i64_w,i32_w]
         rfl
        refine one_ (i:=11) (N:=some 56) #[tT,tT,tT,tT,tT,tT,tT,tT,tT,tT,tT,tT,fF,fF,fF,fF] rfl rfl (one_of HT_.out (by kernel_rfl)) (by decide) (fun K hK=>?_)
        refine goes_ Try.func18 (by kernel_rfl) rfl #[.string ((strOfNums x6_1) ++ x146000_1),.string x146001_1] (by rfl) rfl rfl (by (try simp only [sM,sC,sN]);first|done|rfl|(simp only [List.length_drop,List.length_take];rfl)) ?_
        with_reducible refine (spec_l06Told.calls k1 ((strOfNums x6_1) ++ x146000_1) x146001_1 t162 t163 t164 _ A32.out).mono ?_
        rintro e w46 ⟨rfl,hb⟩
        refine ⟨_,rfl,?_⟩
        replace HO_6:=ko HO_6 hb;replace HO_7:=ko HO_7 hb;replace BK144:=kb BK144 hb;replace BK145:=kb BK145 hb;replace BK146:=kb BK146 hb;replace BK156:=kb BK156 hb;replace HB:=aM (below_step (by first|exact bb HB|exact bg HB GE144|exact bg HB GE145|exact bg HB GE146|exact bg HB GE156) hb);(try clear hb)
        refine hK.out _ _ ⟨(blk_cell BK145.out 0).trans rfl,(blk_cell BK145.out 1).trans rfl,(blk_cell BK145.out 2).trans rfl,(blk_cell BK145.out 3).trans rfl,(blk_cell BK145.out 4).trans rfl,(blk_cell BK145.out 5).trans rfl,own_string (P:=Try.prog) Try.underlying42 Try.underlying5 Try.underlying9 (Kd.own_of_R HO_6.out)⟩ (fun hHeld=>?_)
        clear hK K
        refine norm_ (a':=?_) ?_ ?_
        rotate_left
        ·show Act.put _ (some 56) _ = _
         simp only [Act.put,sI,sZ,sS,i64_w,i32_w]
         rfl
        refine pure_ (i:=12) (N:=some 57) (v:=?_) (a':=?_) #[tT,tT,tT,tT,tT,tT,tT,tT,tT,tT,tT,tT,tT,fF,fF,fF] rfl rfl (any_of HT_.out (by kernel_rfl)) (fun _ _ _ h=>h) (Or.inl ⟨by rfl,?_⟩) ?_ ?_
        rotate_left
        ·intro w'
         go_simp
         with_reducible rfl
        rotate_left
        ·simp only [Act.put,sI,sZ,sS,i64_w,i32_w]
         rfl
        refine pure_ (i:=13) (N:=some 58) (v:=?_) (a':=?_) #[tT,tT,tT,tT,tT,tT,tT,tT,tT,tT,tT,tT,tT,tT,fF,fF] rfl rfl (any_of HT_.out (by kernel_rfl)) (fun _ _ _ h=>h) (Or.inl ⟨by rfl,?_⟩) ?_ ?_
        rotate_left
        ·intro w'
         go_simp
         with_reducible rfl
        rotate_left
        ·simp only [Act.put,sI,sZ,sS,i64_w,i32_w]
         rfl
        refine last_ (i:=14) (N:=none) #[tT,tT,tT,tT,tT,tT,tT,tT,tT,tT,tT,tT,tT,tT,tT,fF] rfl rfl (one_of HT_.out (by kernel_rfl)) (by decide) (fun K hK=>?_)
        have hs47:w46.cell? ⟨gb146,0,none⟩ = some (.string x147000_1):=(blk_cell BK146.out 0).trans rfl
        have hfs47:=blk_frozen BK146.out 0
        have hns47_0:=NB144_146.out
        have hns47_1:=NB145_146.out
        have hns47_3:=NB156_146.out
        have hms47_0:=NB146_144.out
        have hms47_1:=NB146_145.out
        have hms47_3:=NB146_156.out
        have hs48:w46.cell? ⟨gb146,1,none⟩ = some (.string x147001_1):=(blk_cell BK146.out 1).trans rfl
        have hfs48:=blk_frozen BK146.out 1
        have hns48_0:=NB144_146.out
        have hns48_1:=NB145_146.out
        have hns48_3:=NB156_146.out
        have hms48_0:=NB146_144.out
        have hms48_1:=NB146_145.out
        have hms48_3:=NB146_156.out
        refine skip_ (w1:=?_) (by rfl) rfl ?_ ?_
        rotate_left
        ·go_simp
         rfl
        refine hK.out _ _ ?_
        clear hK K
        refine pure_ (i:=15) (N:=some 5) (v:=?_) (a':=?_) #[tT,tT,tT,tT,tT,tT,tT,tT,tT,tT,tT,tT,tT,tT,tT,tT] rfl rfl (any_of HT_.out (by kernel_rfl)) (fun _ _ _ h=>h) (Or.inl ⟨by rfl,?_⟩) ?_ ?_
        rotate_left
        ·intro w'
         go_simp
         with_reducible rfl
        rotate_left
        ·simp only [Act.put,sI,sZ,sS,i64_w,i32_w]
         rfl
        refine done_ (done_of HT_.out (by kernel_rfl)) ?_
        try go_wp2
        refine bodyPost_ret (results_ct rfl _ _ gb146 27 #[.string t162,.string t163] (0,0) _ rfl (by (with_reducible repeat (first|apply yN|apply yD|apply yA));refine blk_put (cs:=#[.string t162,.string x147001_1]) ?_ 1 _ rfl;(with_reducible repeat (first|apply yN|apply yD|apply yA));refine blk_put (cs:=#[.string x147000_1,.string x147001_1]) ?_ 0 _ rfl;(with_reducible repeat (first|apply yN|apply yD|apply yA));exact BK146.out) Try.underlying27 rfl (by kernel_rfl)) rfl ?_
        exact ⟨by first|rfl|(simp [errW_none,errW_some] <;> rfl)|(simp [*,errW_none,errW_some] <;> rfl),by first|exact bb HB|exact bg HB GE144|exact bg HB GE145|exact bg HB GE146|exact bg HB GE156⟩
       ·rw [if_neg c31] at H
        exact absurd H (by simp)
      ·rw [if_neg c30] at H
       by_cases c49:t161 = 1
       ·subst c49
        have H1:(if (strOfNums x6_1).size + x146002_1.size ≤ 9223372036854775807 then ((spec_l06Told.f k1 ((strOfNums x6_1) ++ x146002_1) x146003_1).bind fun bt165=>(some (bt165.1,bt165.2.1,bt165.2.2))) else (none)) = some (r1,r2,r3):=by rw [if_pos rfl] at H;exact H
        clear H
        have H:=H1
        clear H1
        by_cases c50:(strOfNums x6_1).size + x146002_1.size ≤ 9223372036854775807
        ·rw [if_pos c50] at H
         have c50b0:=eq_true c50
         have c50b1:decide ((strOfNums x6_1).size + x146002_1.size ≤ 9223372036854775807) = true:=decide_eq_true c50
         try have c50b2:(9223372036854775807 < (strOfNums x6_1).size + x146002_1.size) = False:=eq_false (Nat.not_lt.2 c50)
         replace H:=Option.bind_eq_some_iff.mp H
         obtain ⟨⟨t165,t166,t167⟩,A510,H⟩:=H
         replace H:(some (t165,t166,t167)) = some (r1,r2,r3):=H;have A51:=aM A510
         clear A510
         simp only [Option.some.injEq,Prod.mk.injEq] at H
         obtain ⟨rfl,rfl,rfl⟩:=H
         have hnb52:=NB145_144.out
         have hnc52:=NB144_145.out
         have hnb53:=NB145_146.out
         have hnc53:=NB146_145.out
         have⟨a0,a1,a2,a3,a4,a5,b0,b1,b2,b3,b4,b5⟩:=q6f BK145
         try go_wp2_with (first|((with_reducible refine gate_callee (f:=17) rfl ?_);refine goesL_ (some 24) rfl rfl Try.func17 (by kernel_rfl) rfl #[.agg #[.string x146000_1,.string x146001_1,.string x146002_1,.string x146003_1,.string x146004_1,.string x146005_1]] rfl (by (try simp only [sM,sC,sN]);first|done|rfl|(simp only [List.length_drop,List.length_take];rfl)) ?_;(with_reducible refine (spec_l06Same.calls k1 x146000_1 x146001_1 x146002_1 x146003_1 x146004_1 x146005_1 t153 t154 false _ A11.out).mono ?_);rintro e w55 ⟨rfl,hb⟩;refine ⟨_,rfl,?_⟩;replace HO_6:=ko HO_6 hb;replace HO_7:=ko HO_7 hb;replace BK144:=kb BK144 hb;replace BK145:=kb BK145 hb;replace BK146:=kb BK146 hb;replace HB:=aM (below_step (by first|exact bb HB|exact bg HB GE144|exact bg HB GE145|exact bg HB GE146) hb);(try clear hb))|((with_reducible refine gate_dst (N:=9) rfl ?_);refine box_event ?hg (N:=9) ?hd (cs:=#[.string ⟨#[]⟩,.string ⟨#[]⟩]) (t:=27) ?hr ?_;(case hd=>rfl);(case hg=>rfl);(case hr=>first|(go_simp;done)|(go_simp;rfl));intro gb156 hg w56 hbox hb;have BK156:=aM (hbox);have GW156:=aM ((by rw [hg];exact (below_size (by first|exact bb HB|exact bg HB GE144|exact bg HB GE145|exact bg HB GE146)):w.heap.size ≤ gb156));have GE156:=aM ((by rw [hg];exact (below_size (by first|exact bb HB|exact bg HB GE144|exact bg HB GE145|exact bg HB GE146)):w.heap.size ≤ gb156));have NB144_156:=nl hg BK144;have NB156_144:=nr hg BK144;have NB145_156:=nl hg BK145;have NB156_145:=nr hg BK145;have NB146_156:=nl hg BK146;have NB156_146:=nr hg BK146;replace HO_6:=ko HO_6 hb;replace HO_7:=ko HO_7 hb;replace BK144:=kb BK144 hb;replace BK145:=kb BK145 hb;replace BK146:=kb BK146 hb;replace HB:=aM (below_step (by first|exact bb HB|exact bg HB GE144|exact bg HB GE145|exact bg HB GE146) hb);clear hb hbox hg;have hnb57:=NB156_144.out;have hnc57:=NB144_156.out;have hnb58:=NB156_145.out;have hnc58:=NB145_156.out;have hnb59:=NB156_146.out;have hnc59:=NB146_156.out;have⟨a0,a1,b0,b1⟩:=q2f BK156;have⟨a0,a1,a2,a3,a4,a5,b0,b1,b2,b3,b4,b5⟩:=q6f BK145)|((with_reducible refine gate_callee (f:=19) rfl ?_);refine goesL_ (some 40) rfl rfl Try.func19 (by kernel_rfl) rfl #[.agg #[.string x146000_1,.string x146001_1,.string x146002_1,.string x146003_1,.string x146004_1,.string x146005_1]] rfl (by (try simp only [sM,sC,sN]);first|done|rfl|(simp only [List.length_drop,List.length_take];rfl)) ?_;(with_reducible refine (spec_l06Letters.calls x146000_1 x146001_1 x146002_1 x146003_1 x146004_1 x146005_1 t160 1 _ A28.out).mono ?_);rintro e w62 ⟨rfl,hb⟩;refine ⟨_,rfl,?_⟩;replace HO_6:=aM (Kd.R_below (by (with_reducible repeat (first|apply rA|apply rN|apply rD));exact (Kd.R_mono (Kd.R_far (p:=⟨gb156,1,none⟩) (Kd.R_far (p:=⟨gb156,0,none⟩) (Kd.R_types HO_6.out BK156.out (by decide)) (fun _ hk=>hk.2) (.string t153)) (fun _ hk=>hk.2) (.string t154)) (fun _ h_=>h_.1))) hb);replace HO_7:=aM (Kd.R_below (by (with_reducible repeat (first|apply rA|apply rN|apply rD));exact (Kd.R_mono (Kd.R_far (p:=⟨gb156,1,none⟩) (Kd.R_far (p:=⟨gb156,0,none⟩) (Kd.R_types HO_7.out BK156.out (by decide)) (fun _ hk=>hk.2) (.string t153)) (fun _ hk=>hk.2) (.string t154)) (fun _ h_=>h_.1))) hb);replace BK144:=kf BK144 NB144_156 hb;replace BK145:=kf BK145 NB145_156 hb;replace BK146:=kf BK146 NB146_156 hb;replace BK156:=aM (blk_below (g:=gb156) (o:=.cells #[.string t153,.string t154] 27 (0,0)) (by (with_reducible repeat (first|apply yN|apply yD|apply yA));refine blk_put (cs:=#[.string t153,.string ⟨#[]⟩]) ?_ 1 _ rfl;(with_reducible repeat (first|apply yN|apply yD|apply yA));refine blk_put (cs:=#[.string ⟨#[]⟩,.string ⟨#[]⟩]) ?_ 0 _ rfl;(with_reducible repeat (first|apply yN|apply yD|apply yA));exact BK156.out) hb);replace HB:=aM (below_step (by first|exact bb HB|exact bg HB GE144|exact bg HB GE145|exact bg HB GE146|exact bg HB GE156) hb);(try clear hb)))
         replace HO_6:=aM (rD HO_6.out);replace HO_7:=aM (rD HO_7.out);replace BK144:=aM (yD BK144.out);replace BK145:=aM (yD BK145.out);replace BK146:=aM (yD BK146.out);replace BK156:=aM (yD BK156.out);replace HB:=aM (zD HB.out)
         have hcv64:=own_string (P:=Try.prog) Try.underlying42 Try.underlying5 Try.underlying9 (Kd.own_of_R HO_6.out)
         refine start_ (n:=16) (S:=fun w'=>w'.cell? ⟨gb145,0,none⟩ = some (.string x146000_1) ∧ w'.cell? ⟨gb145,1,none⟩ = some (.string x146001_1) ∧ w'.cell? ⟨gb145,2,none⟩ = some (.string x146002_1) ∧ w'.cell? ⟨gb145,3,none⟩ = some (.string x146003_1) ∧ w'.cell? ⟨gb145,4,none⟩ = some (.string x146004_1) ∧ w'.cell? ⟨gb145,5,none⟩ = some (.string x146005_1) ∧ (convert 42 9 u6).run Try.prog w' = .ok (.string (strOfNums x6_1)) w') (ds:=[14]) #[fF,fF,fF,fF,fF,fF,fF,fF,fF,fF,fF,fF,fF,fF,fF,fF] (by kernel_rfl) rfl rfl ⟨(blk_cell BK145.out 0).trans rfl,(blk_cell BK145.out 1).trans rfl,(blk_cell BK145.out 2).trans rfl,(blk_cell BK145.out 3).trans rfl,(blk_cell BK145.out 4).trans rfl,(blk_cell BK145.out 5).trans rfl,hcv64⟩ (fun hHeld=>?_);refine with_tabW spec_l06Middle.tab10 spec_l06Middle.bits10 (fun HT_ HW_=>?_)
         generalize w62.drew = w63 at HO_6 HO_7 BK144 BK145 BK146 BK156 HB hHeld ⊢
         refine pure_ (i:=0) (N:=some 45) (v:=?_) (a':=?_) #[tT,fF,fF,fF,fF,fF,fF,fF,fF,fF,fF,fF,fF,fF,fF,fF] rfl rfl (any_of HT_.out (by kernel_rfl)) (fun _ _ _ h=>h) (Or.inl ⟨by rfl,?_⟩) ?_ ?_
         rotate_left
         ·intro w'
          go_simp
          with_reducible rfl
         rotate_left
         ·simp only [Act.put,sI,sZ,sS,i64_w,i32_w]
          rfl
         refine take_ (i:=1) (N:=some 46) (v:=?_) (a':=?_) #[tT,tT,fF,fF,fF,fF,fF,fF,fF,fF,fF,fF,fF,fF,fF,fF] rfl rfl (take_ofW HT_.out HW_.out (by kernel_rfl)) (fun _ _ _ h=>h) (Or.inl ⟨by rfl,?_⟩) hHeld ?_ ?_
         rotate_left
         ·rintro w' ⟨s0,s1,s2,s3,s4,s5,s6⟩
          first|(go_simp;rw [s6];rfl)|(go_simp;with_reducible rfl)|(simp only [s6];rfl)
         rotate_left
         ·simp only [Act.put,sI,sZ,sS,i64_w,i32_w]
          rfl
         refine pure_ (i:=2) (N:=some 47) (v:=?_) (a':=?_) #[tT,tT,tT,fF,fF,fF,fF,fF,fF,fF,fF,fF,fF,fF,fF,fF] rfl rfl (any_of HT_.out (by kernel_rfl)) (fun _ _ _ h=>h) (Or.inl ⟨by rfl,?_⟩) ?_ ?_
         rotate_left
         ·intro w'
          go_simp
          with_reducible rfl
         rotate_left
         ·simp only [Act.put,sI,sZ,sS,i64_w,i32_w]
          rfl
         refine pure_ (i:=3) (N:=some 48) (v:=?_) (a':=?_) #[tT,tT,tT,tT,fF,fF,fF,fF,fF,fF,fF,fF,fF,fF,fF,fF] rfl rfl (any_of HT_.out (by kernel_rfl)) (fun _ _ _ h=>h) (Or.inl ⟨by rfl,?_⟩) ?_ ?_
         rotate_left
         ·intro w'
          go_simp
          with_reducible rfl
         rotate_left
         ·simp only [Act.put,sI,sZ,sS,i64_w,i32_w]
          rfl
         refine pure_ (i:=4) (N:=some 49) (v:=?_) (a':=?_) #[tT,tT,tT,tT,tT,fF,fF,fF,fF,fF,fF,fF,fF,fF,fF,fF] rfl rfl (any_of HT_.out (by kernel_rfl)) (fun _ _ _ h=>h) (Or.inl ⟨by rfl,?_⟩) ?_ ?_
         rotate_left
         ·intro w'
          go_simp
          with_reducible rfl
         rotate_left
         ·simp only [Act.put,sI,sZ,sS,i64_w,i32_w]
          rfl
         refine pure_ (i:=7) (N:=some 52) (v:=?_) (a':=?_) #[tT,tT,tT,tT,tT,fF,fF,tT,fF,fF,fF,fF,fF,fF,fF,fF] rfl rfl (any_of HT_.out (by kernel_rfl)) (fun _ _ _ h=>h) (Or.inl ⟨by rfl,?_⟩) ?_ ?_
         rotate_left
         ·intro w'
          go_simp
          with_reducible rfl
         rotate_left
         ·simp only [Act.put,sI,sZ,sS,i64_w,i32_w]
          rfl
         refine pure_ (i:=8) (N:=some 53) (v:=?_) (a':=?_) #[tT,tT,tT,tT,tT,fF,fF,tT,tT,fF,fF,fF,fF,fF,fF,fF] rfl rfl (any_of HT_.out (by kernel_rfl)) (fun _ _ _ h=>h) (Or.inl ⟨by rfl,?_⟩) ?_ ?_
         rotate_left
         ·intro w'
          go_simp
          with_reducible rfl
         rotate_left
         ·simp only [Act.put,sI,sZ,sS,i64_w,i32_w]
          rfl
         refine pure_ (i:=9) (N:=some 54) (v:=?_) (a':=?_) #[tT,tT,tT,tT,tT,fF,fF,tT,tT,tT,fF,fF,fF,fF,fF,fF] rfl rfl (any_of HT_.out (by kernel_rfl)) (fun _ _ _ h=>h) (Or.inl ⟨by rfl,?_⟩) ?_ ?_
         rotate_left
         ·intro w'
          go_simp
          with_reducible rfl
         rotate_left
         ·simp only [Act.put,sI,sZ,sS,i64_w,i32_w]
          rfl
         refine take_ (i:=5) (N:=some 50) (v:=?_) (a':=?_) #[tT,tT,tT,tT,tT,tT,fF,tT,tT,tT,fF,fF,fF,fF,fF,fF] rfl rfl (take_ofW HT_.out HW_.out (by kernel_rfl)) (fun _ _ _ h=>h) (Or.inl ⟨by rfl,?_⟩) hHeld ?_ ?_
         rotate_left
         ·rintro w' ⟨s0,s1,s2,s3,s4,s5,s6⟩
          go_simp
          with_reducible rfl
         rotate_left
         ·simp only [Act.put,sI,sZ,sS,i64_w,i32_w]
          rfl
         refine pure_ (i:=6) (N:=some 51) (v:=?_) (a':=?_) #[tT,tT,tT,tT,tT,tT,tT,tT,tT,tT,fF,fF,fF,fF,fF,fF] rfl rfl (any_of HT_.out (by kernel_rfl)) (fun _ _ _ h=>h) (Or.inl ⟨by rfl,?_⟩) ?_ ?_
         rotate_left
         ·intro w'
          go_simp
          with_reducible rfl
         rotate_left
         ·simp only [Act.put,sI,sZ,sS,i64_w,i32_w]
          rfl
         refine take_ (i:=10) (N:=some 55) (v:=?_) (a':=?_) #[tT,tT,tT,tT,tT,tT,tT,tT,tT,tT,tT,fF,fF,fF,fF,fF] rfl rfl (take_ofW HT_.out HW_.out (by kernel_rfl)) (fun _ _ _ h=>h) (Or.inl ⟨by rfl,?_⟩) hHeld ?_ ?_
         rotate_left
         ·rintro w' ⟨s0,s1,s2,s3,s4,s5,s6⟩
          go_simp
          with_reducible rfl
         rotate_left
         ·simp only [Act.put,sI,sZ,sS,i64_w,i32_w]
          rfl
         refine one_ (i:=11) (N:=some 56) #[tT,tT,tT,tT,tT,tT,tT,tT,tT,tT,tT,tT,fF,fF,fF,fF] rfl rfl (one_of HT_.out (by kernel_rfl)) (by decide) (fun K hK=>?_)
         refine goes_ Try.func18 (by kernel_rfl) rfl #[.string ((strOfNums x6_1) ++ x146002_1),.string x146003_1] (by rfl) rfl rfl (by (try simp only [sM,sC,sN]);first|done|rfl|(simp only [List.length_drop,List.length_take];rfl)) ?_
         with_reducible refine (spec_l06Told.calls k1 ((strOfNums x6_1) ++ x146002_1) x146003_1 t165 t166 t167 _ A51.out).mono ?_
         rintro e w65 ⟨rfl,hb⟩
         refine ⟨_,rfl,?_⟩
         replace HO_6:=ko HO_6 hb;replace HO_7:=ko HO_7 hb;replace BK144:=kb BK144 hb;replace BK145:=kb BK145 hb;replace BK146:=kb BK146 hb;replace BK156:=kb BK156 hb;replace HB:=aM (below_step (by first|exact bb HB|exact bg HB GE144|exact bg HB GE145|exact bg HB GE146|exact bg HB GE156) hb);(try clear hb)
         refine hK.out _ _ ⟨(blk_cell BK145.out 0).trans rfl,(blk_cell BK145.out 1).trans rfl,(blk_cell BK145.out 2).trans rfl,(blk_cell BK145.out 3).trans rfl,(blk_cell BK145.out 4).trans rfl,(blk_cell BK145.out 5).trans rfl,own_string (P:=Try.prog) Try.underlying42 Try.underlying5 Try.underlying9 (Kd.own_of_R HO_6.out)⟩ (fun hHeld=>?_)
         clear hK K
         refine norm_ (a':=?_) ?_ ?_
         rotate_left
         ·show Act.put _ (some 56) _ = _
          simp only [Act.put,sI,sZ,sS,i64_w,i32_w]
          rfl
         refine pure_ (i:=12) (N:=some 57) (v:=?_) (a':=?_) #[tT,tT,tT,tT,tT,tT,tT,tT,tT,tT,tT,tT,tT,fF,fF,fF] rfl rfl (any_of HT_.out (by kernel_rfl)) (fun _ _ _ h=>h) (Or.inl ⟨by rfl,?_⟩) ?_ ?_
         rotate_left
         ·intro w'
          go_simp
          with_reducible rfl
         rotate_left
         ·simp only [Act.put,sI,sZ,sS,i64_w,i32_w]
          rfl
         refine pure_ (i:=13) (N:=some 58) (v:=?_) (a':=?_) #[tT,tT,tT,tT,tT,tT,tT,tT,tT,tT,tT,tT,tT,tT,fF,fF] rfl rfl (any_of HT_.out (by kernel_rfl)) (fun _ _ _ h=>h) (Or.inl ⟨by rfl,?_⟩) ?_ ?_
         rotate_left
         ·intro w'
          go_simp
          with_reducible rfl
         rotate_left
         ·simp only [Act.put,sI,sZ,sS,i64_w,i32_w]
          rfl
         refine last_ (i:=14) (N:=none) #[tT,tT,tT,tT,tT,tT,tT,tT,tT,tT,tT,tT,tT,tT,tT,fF] rfl rfl (one_of HT_.out (by kernel_rfl)) (by decide) (fun K hK=>?_)
         have hs66:w65.cell? ⟨gb146,0,none⟩ = some (.string x147000_1):=(blk_cell BK146.out 0).trans rfl
         have hfs66:=blk_frozen BK146.out 0
         have hns66_0:=NB144_146.out
         have hns66_1:=NB145_146.out
         have hns66_3:=NB156_146.out
         have hms66_0:=NB146_144.out
         have hms66_1:=NB146_145.out
         have hms66_3:=NB146_156.out
         have hs67:w65.cell? ⟨gb146,1,none⟩ = some (.string x147001_1):=(blk_cell BK146.out 1).trans rfl
         have hfs67:=blk_frozen BK146.out 1
         have hns67_0:=NB144_146.out
         have hns67_1:=NB145_146.out
         have hns67_3:=NB156_146.out
         have hms67_0:=NB146_144.out
         have hms67_1:=NB146_145.out
         have hms67_3:=NB146_156.out
         refine skip_ (w1:=?_) (by rfl) rfl ?_ ?_
         rotate_left
         ·go_simp
          rfl
         refine hK.out _ _ ?_
         clear hK K
         refine pure_ (i:=15) (N:=some 5) (v:=?_) (a':=?_) #[tT,tT,tT,tT,tT,tT,tT,tT,tT,tT,tT,tT,tT,tT,tT,tT] rfl rfl (any_of HT_.out (by kernel_rfl)) (fun _ _ _ h=>h) (Or.inl ⟨by rfl,?_⟩) ?_ ?_
         rotate_left
         ·intro w'
          go_simp
          with_reducible rfl
         rotate_left
         ·simp only [Act.put,sI,sZ,sS,i64_w,i32_w]
          rfl
         refine done_ (done_of HT_.out (by kernel_rfl)) ?_
         try go_wp2
         refine bodyPost_ret (results_ct rfl _ _ gb146 27 #[.string t165,.string t166] (0,0) _ rfl (by (with_reducible repeat (first|apply yN|apply yD|apply yA));refine blk_put (cs:=#[.string t165,.string x147001_1]) ?_ 1 _ rfl;(with_reducible repeat (first|apply yN|apply yD|apply yA));refine blk_put (cs:=#[.string x147000_1,.string x147001_1]) ?_ 0 _ rfl;(with_reducible repeat (first|apply yN|apply yD|apply yA));exact BK146.out) Try.underlying27 rfl (by kernel_rfl)) rfl ?_
         exact ⟨by first|rfl|(simp [errW_none,errW_some] <;> rfl)|(simp [*,errW_none,errW_some] <;> rfl),by first|exact bb HB|exact bg HB GE144|exact bg HB GE145|exact bg HB GE146|exact bg HB GE156⟩
        ·rw [if_neg c50] at H
         exact absurd H (by simp)
       ·rw [if_neg c49] at H
        by_cases c68:t161 = 2
        ·subst c68
         have H1:(if (strOfNums x6_1).size + x146004_1.size ≤ 9223372036854775807 then ((spec_l06Told.f k1 ((strOfNums x6_1) ++ x146004_1) x146005_1).bind fun bt168=>(some (bt168.1,bt168.2.1,bt168.2.2))) else (none)) = some (r1,r2,r3):=by rw [if_pos rfl] at H;exact H
         clear H
         have H:=H1
         clear H1
         by_cases c69:(strOfNums x6_1).size + x146004_1.size ≤ 9223372036854775807
         ·rw [if_pos c69] at H
          have c69b0:=eq_true c69
          have c69b1:decide ((strOfNums x6_1).size + x146004_1.size ≤ 9223372036854775807) = true:=decide_eq_true c69
          try have c69b2:(9223372036854775807 < (strOfNums x6_1).size + x146004_1.size) = False:=eq_false (Nat.not_lt.2 c69)
          replace H:=Option.bind_eq_some_iff.mp H
          obtain ⟨⟨t168,t169,t170⟩,A700,H⟩:=H
          replace H:(some (t168,t169,t170)) = some (r1,r2,r3):=H;have A70:=aM A700
          clear A700
          simp only [Option.some.injEq,Prod.mk.injEq] at H
          obtain ⟨rfl,rfl,rfl⟩:=H
          have hnb71:=NB145_144.out
          have hnc71:=NB144_145.out
          have hnb72:=NB145_146.out
          have hnc72:=NB146_145.out
          have⟨a0,a1,a2,a3,a4,a5,b0,b1,b2,b3,b4,b5⟩:=q6f BK145
          try go_wp2_with (first|((with_reducible refine gate_callee (f:=17) rfl ?_);refine goesL_ (some 24) rfl rfl Try.func17 (by kernel_rfl) rfl #[.agg #[.string x146000_1,.string x146001_1,.string x146002_1,.string x146003_1,.string x146004_1,.string x146005_1]] rfl (by (try simp only [sM,sC,sN]);first|done|rfl|(simp only [List.length_drop,List.length_take];rfl)) ?_;(with_reducible refine (spec_l06Same.calls k1 x146000_1 x146001_1 x146002_1 x146003_1 x146004_1 x146005_1 t153 t154 false _ A11.out).mono ?_);rintro e w74 ⟨rfl,hb⟩;refine ⟨_,rfl,?_⟩;replace HO_6:=ko HO_6 hb;replace HO_7:=ko HO_7 hb;replace BK144:=kb BK144 hb;replace BK145:=kb BK145 hb;replace BK146:=kb BK146 hb;replace HB:=aM (below_step (by first|exact bb HB|exact bg HB GE144|exact bg HB GE145|exact bg HB GE146) hb);(try clear hb))|((with_reducible refine gate_dst (N:=9) rfl ?_);refine box_event ?hg (N:=9) ?hd (cs:=#[.string ⟨#[]⟩,.string ⟨#[]⟩]) (t:=27) ?hr ?_;(case hd=>rfl);(case hg=>rfl);(case hr=>first|(go_simp;done)|(go_simp;rfl));intro gb156 hg w75 hbox hb;have BK156:=aM (hbox);have GW156:=aM ((by rw [hg];exact (below_size (by first|exact bb HB|exact bg HB GE144|exact bg HB GE145|exact bg HB GE146)):w.heap.size ≤ gb156));have GE156:=aM ((by rw [hg];exact (below_size (by first|exact bb HB|exact bg HB GE144|exact bg HB GE145|exact bg HB GE146)):w.heap.size ≤ gb156));have NB144_156:=nl hg BK144;have NB156_144:=nr hg BK144;have NB145_156:=nl hg BK145;have NB156_145:=nr hg BK145;have NB146_156:=nl hg BK146;have NB156_146:=nr hg BK146;replace HO_6:=ko HO_6 hb;replace HO_7:=ko HO_7 hb;replace BK144:=kb BK144 hb;replace BK145:=kb BK145 hb;replace BK146:=kb BK146 hb;replace HB:=aM (below_step (by first|exact bb HB|exact bg HB GE144|exact bg HB GE145|exact bg HB GE146) hb);clear hb hbox hg;have hnb76:=NB156_144.out;have hnc76:=NB144_156.out;have hnb77:=NB156_145.out;have hnc77:=NB145_156.out;have hnb78:=NB156_146.out;have hnc78:=NB146_156.out;have⟨a0,a1,b0,b1⟩:=q2f BK156;have⟨a0,a1,a2,a3,a4,a5,b0,b1,b2,b3,b4,b5⟩:=q6f BK145)|((with_reducible refine gate_callee (f:=19) rfl ?_);refine goesL_ (some 40) rfl rfl Try.func19 (by kernel_rfl) rfl #[.agg #[.string x146000_1,.string x146001_1,.string x146002_1,.string x146003_1,.string x146004_1,.string x146005_1]] rfl (by (try simp only [sM,sC,sN]);first|done|rfl|(simp only [List.length_drop,List.length_take];rfl)) ?_;(with_reducible refine (spec_l06Letters.calls x146000_1 x146001_1 x146002_1 x146003_1 x146004_1 x146005_1 t160 2 _ A28.out).mono ?_);rintro e w81 ⟨rfl,hb⟩;refine ⟨_,rfl,?_⟩;replace HO_6:=aM (Kd.R_below (by (with_reducible repeat (first|apply rA|apply rN|apply rD));exact (Kd.R_mono (Kd.R_far (p:=⟨gb156,1,none⟩) (Kd.R_far (p:=⟨gb156,0,none⟩) (Kd.R_types HO_6.out BK156.out (by decide)) (fun _ hk=>hk.2) (.string t153)) (fun _ hk=>hk.2) (.string t154)) (fun _ h_=>h_.1))) hb);replace HO_7:=aM (Kd.R_below (by (with_reducible repeat (first|apply rA|apply rN|apply rD));exact (Kd.R_mono (Kd.R_far (p:=⟨gb156,1,none⟩) (Kd.R_far (p:=⟨gb156,0,none⟩) (Kd.R_types HO_7.out BK156.out (by decide)) (fun _ hk=>hk.2) (.string t153)) (fun _ hk=>hk.2) (.string t154)) (fun _ h_=>h_.1))) hb);replace BK144:=kf BK144 NB144_156 hb;replace BK145:=kf BK145 NB145_156 hb;replace BK146:=kf BK146 NB146_156 hb;replace BK156:=aM (blk_below (g:=gb156) (o:=.cells #[.string t153,.string t154] 27 (0,0)) (by (with_reducible repeat (first|apply yN|apply yD|apply yA));refine blk_put (cs:=#[.string t153,.string ⟨#[]⟩]) ?_ 1 _ rfl;(with_reducible repeat (first|apply yN|apply yD|apply yA));refine blk_put (cs:=#[.string ⟨#[]⟩,.string ⟨#[]⟩]) ?_ 0 _ rfl;(with_reducible repeat (first|apply yN|apply yD|apply yA));exact BK156.out) hb);replace HB:=aM (below_step (by first|exact bb HB|exact bg HB GE144|exact bg HB GE145|exact bg HB GE146|exact bg HB GE156) hb);(try clear hb)))
          replace HO_6:=aM (rD HO_6.out);replace HO_7:=aM (rD HO_7.out);replace BK144:=aM (yD BK144.out);replace BK145:=aM (yD BK145.out);replace BK146:=aM (yD BK146.out);replace BK156:=aM (yD BK156.out);replace HB:=aM (zD HB.out)
          have hcv83:=own_string (P:=Try.prog) Try.underlying42 Try.underlying5 Try.underlying9 (Kd.own_of_R HO_6.out)
          refine start_ (n:=16) (S:=fun w'=>w'.cell? ⟨gb145,0,none⟩ = some (.string x146000_1) ∧ w'.cell? ⟨gb145,1,none⟩ = some (.string x146001_1) ∧ w'.cell? ⟨gb145,2,none⟩ = some (.string x146002_1) ∧ w'.cell? ⟨gb145,3,none⟩ = some (.string x146003_1) ∧ w'.cell? ⟨gb145,4,none⟩ = some (.string x146004_1) ∧ w'.cell? ⟨gb145,5,none⟩ = some (.string x146005_1) ∧ (convert 42 9 u6).run Try.prog w' = .ok (.string (strOfNums x6_1)) w') (ds:=[14]) #[fF,fF,fF,fF,fF,fF,fF,fF,fF,fF,fF,fF,fF,fF,fF,fF] (by kernel_rfl) rfl rfl ⟨(blk_cell BK145.out 0).trans rfl,(blk_cell BK145.out 1).trans rfl,(blk_cell BK145.out 2).trans rfl,(blk_cell BK145.out 3).trans rfl,(blk_cell BK145.out 4).trans rfl,(blk_cell BK145.out 5).trans rfl,hcv83⟩ (fun hHeld=>?_);refine with_tabW spec_l06Middle.tab10 spec_l06Middle.bits10 (fun HT_ HW_=>?_)
          generalize w81.drew = w82 at HO_6 HO_7 BK144 BK145 BK146 BK156 HB hHeld ⊢
          refine pure_ (i:=0) (N:=some 45) (v:=?_) (a':=?_) #[tT,fF,fF,fF,fF,fF,fF,fF,fF,fF,fF,fF,fF,fF,fF,fF] rfl rfl (any_of HT_.out (by kernel_rfl)) (fun _ _ _ h=>h) (Or.inl ⟨by rfl,?_⟩) ?_ ?_
          rotate_left
          ·intro w'
           go_simp
           with_reducible rfl
          rotate_left
          ·simp only [Act.put,sI,sZ,sS,i64_w,i32_w]
           rfl
          refine take_ (i:=1) (N:=some 46) (v:=?_) (a':=?_) #[tT,tT,fF,fF,fF,fF,fF,fF,fF,fF,fF,fF,fF,fF,fF,fF] rfl rfl (take_ofW HT_.out HW_.out (by kernel_rfl)) (fun _ _ _ h=>h) (Or.inl ⟨by rfl,?_⟩) hHeld ?_ ?_
          rotate_left
          ·rintro w' ⟨s0,s1,s2,s3,s4,s5,s6⟩
           first|(go_simp;rw [s6];rfl)|(go_simp;with_reducible rfl)|(simp only [s6];rfl)
          rotate_left
          ·simp only [Act.put,sI,sZ,sS,i64_w,i32_w]
           rfl
          refine pure_ (i:=2) (N:=some 47) (v:=?_) (a':=?_) #[tT,tT,tT,fF,fF,fF,fF,fF,fF,fF,fF,fF,fF,fF,fF,fF] rfl rfl (any_of HT_.out (by kernel_rfl)) (fun _ _ _ h=>h) (Or.inl ⟨by rfl,?_⟩) ?_ ?_
          rotate_left
          ·intro w'
           go_simp
           with_reducible rfl
          rotate_left
          ·simp only [Act.put,sI,sZ,sS,i64_w,i32_w]
           rfl
          refine pure_ (i:=3) (N:=some 48) (v:=?_) (a':=?_) #[tT,tT,tT,tT,fF,fF,fF,fF,fF,fF,fF,fF,fF,fF,fF,fF] rfl rfl (any_of HT_.out (by kernel_rfl)) (fun _ _ _ h=>h) (Or.inl ⟨by rfl,?_⟩) ?_ ?_
          rotate_left
          ·intro w'
           go_simp
           with_reducible rfl
          rotate_left
          ·simp only [Act.put,sI,sZ,sS,i64_w,i32_w]
           rfl
          refine pure_ (i:=4) (N:=some 49) (v:=?_) (a':=?_) #[tT,tT,tT,tT,tT,fF,fF,fF,fF,fF,fF,fF,fF,fF,fF,fF] rfl rfl (any_of HT_.out (by kernel_rfl)) (fun _ _ _ h=>h) (Or.inl ⟨by rfl,?_⟩) ?_ ?_
          rotate_left
          ·intro w'
           go_simp
           with_reducible rfl
          rotate_left
          ·simp only [Act.put,sI,sZ,sS,i64_w,i32_w]
           rfl
          refine pure_ (i:=7) (N:=some 52) (v:=?_) (a':=?_) #[tT,tT,tT,tT,tT,fF,fF,tT,fF,fF,fF,fF,fF,fF,fF,fF] rfl rfl (any_of HT_.out (by kernel_rfl)) (fun _ _ _ h=>h) (Or.inl ⟨by rfl,?_⟩) ?_ ?_
          rotate_left
          ·intro w'
           go_simp
           with_reducible rfl
          rotate_left
          ·simp only [Act.put,sI,sZ,sS,i64_w,i32_w]
           rfl
          refine pure_ (i:=8) (N:=some 53) (v:=?_) (a':=?_) #[tT,tT,tT,tT,tT,fF,fF,tT,tT,fF,fF,fF,fF,fF,fF,fF] rfl rfl (any_of HT_.out (by kernel_rfl)) (fun _ _ _ h=>h) (Or.inl ⟨by rfl,?_⟩) ?_ ?_
          rotate_left
          ·intro w'
           go_simp
           with_reducible rfl
          rotate_left
          ·simp only [Act.put,sI,sZ,sS,i64_w,i32_w]
           rfl
          refine pure_ (i:=9) (N:=some 54) (v:=?_) (a':=?_) #[tT,tT,tT,tT,tT,fF,fF,tT,tT,tT,fF,fF,fF,fF,fF,fF] rfl rfl (any_of HT_.out (by kernel_rfl)) (fun _ _ _ h=>h) (Or.inl ⟨by rfl,?_⟩) ?_ ?_
          rotate_left
          ·intro w'
           go_simp
           with_reducible rfl
          rotate_left
          ·simp only [Act.put,sI,sZ,sS,i64_w,i32_w]
           rfl
          refine take_ (i:=5) (N:=some 50) (v:=?_) (a':=?_) #[tT,tT,tT,tT,tT,tT,fF,tT,tT,tT,fF,fF,fF,fF,fF,fF] rfl rfl (take_ofW HT_.out HW_.out (by kernel_rfl)) (fun _ _ _ h=>h) (Or.inl ⟨by rfl,?_⟩) hHeld ?_ ?_
          rotate_left
          ·rintro w' ⟨s0,s1,s2,s3,s4,s5,s6⟩
           go_simp
           with_reducible rfl
          rotate_left
          ·simp only [Act.put,sI,sZ,sS,i64_w,i32_w]
           rfl
          refine pure_ (i:=6) (N:=some 51) (v:=?_) (a':=?_) #[tT,tT,tT,tT,tT,tT,tT,tT,tT,tT,fF,fF,fF,fF,fF,fF] rfl rfl (any_of HT_.out (by kernel_rfl)) (fun _ _ _ h=>h) (Or.inl ⟨by rfl,?_⟩) ?_ ?_
          rotate_left
          ·intro w'
           go_simp
           with_reducible rfl
          rotate_left
          ·simp only [Act.put,sI,sZ,sS,i64_w,i32_w]
           rfl
          refine take_ (i:=10) (N:=some 55) (v:=?_) (a':=?_) #[tT,tT,tT,tT,tT,tT,tT,tT,tT,tT,tT,fF,fF,fF,fF,fF] rfl rfl (take_ofW HT_.out HW_.out (by kernel_rfl)) (fun _ _ _ h=>h) (Or.inl ⟨by rfl,?_⟩) hHeld ?_ ?_
          rotate_left
          ·rintro w' ⟨s0,s1,s2,s3,s4,s5,s6⟩
           go_simp
           with_reducible rfl
          rotate_left
          ·simp only [Act.put,sI,sZ,sS,i64_w,i32_w]
           rfl
          refine one_ (i:=11) (N:=some 56) #[tT,tT,tT,tT,tT,tT,tT,tT,tT,tT,tT,tT,fF,fF,fF,fF] rfl rfl (one_of HT_.out (by kernel_rfl)) (by decide) (fun K hK=>?_)
          refine goes_ Try.func18 (by kernel_rfl) rfl #[.string ((strOfNums x6_1) ++ x146004_1),.string x146005_1] (by rfl) rfl rfl (by (try simp only [sM,sC,sN]);first|done|rfl|(simp only [List.length_drop,List.length_take];rfl)) ?_
          with_reducible refine (spec_l06Told.calls k1 ((strOfNums x6_1) ++ x146004_1) x146005_1 t168 t169 t170 _ A70.out).mono ?_
          rintro e w84 ⟨rfl,hb⟩
          refine ⟨_,rfl,?_⟩
          replace HO_6:=ko HO_6 hb;replace HO_7:=ko HO_7 hb;replace BK144:=kb BK144 hb;replace BK145:=kb BK145 hb;replace BK146:=kb BK146 hb;replace BK156:=kb BK156 hb;replace HB:=aM (below_step (by first|exact bb HB|exact bg HB GE144|exact bg HB GE145|exact bg HB GE146|exact bg HB GE156) hb);(try clear hb)
          refine hK.out _ _ ⟨(blk_cell BK145.out 0).trans rfl,(blk_cell BK145.out 1).trans rfl,(blk_cell BK145.out 2).trans rfl,(blk_cell BK145.out 3).trans rfl,(blk_cell BK145.out 4).trans rfl,(blk_cell BK145.out 5).trans rfl,own_string (P:=Try.prog) Try.underlying42 Try.underlying5 Try.underlying9 (Kd.own_of_R HO_6.out)⟩ (fun hHeld=>?_)
          clear hK K
          refine norm_ (a':=?_) ?_ ?_
          rotate_left
          ·show Act.put _ (some 56) _ = _
           simp only [Act.put,sI,sZ,sS,i64_w,i32_w]
           rfl
          refine pure_ (i:=12) (N:=some 57) (v:=?_) (a':=?_) #[tT,tT,tT,tT,tT,tT,tT,tT,tT,tT,tT,tT,tT,fF,fF,fF] rfl rfl (any_of HT_.out (by kernel_rfl)) (fun _ _ _ h=>h) (Or.inl ⟨by rfl,?_⟩) ?_ ?_
          rotate_left
          ·intro w'
           go_simp
           with_reducible rfl
          rotate_left
          ·simp only [Act.put,sI,sZ,sS,i64_w,i32_w]
           rfl
          refine pure_ (i:=13) (N:=some 58) (v:=?_) (a':=?_) #[tT,tT,tT,tT,tT,tT,tT,tT,tT,tT,tT,tT,tT,tT,fF,fF] rfl rfl (any_of HT_.out (by kernel_rfl)) (fun _ _ _ h=>h) (Or.inl ⟨by rfl,?_⟩) ?_ ?_
          rotate_left
          ·intro w'
           go_simp
           with_reducible rfl
          rotate_left
          ·simp only [Act.put,sI,sZ,sS,i64_w,i32_w]
           rfl
          refine last_ (i:=14) (N:=none) #[tT,tT,tT,tT,tT,tT,tT,tT,tT,tT,tT,tT,tT,tT,tT,fF] rfl rfl (one_of HT_.out (by kernel_rfl)) (by decide) (fun K hK=>?_)
          have hs85:w84.cell? ⟨gb146,0,none⟩ = some (.string x147000_1):=(blk_cell BK146.out 0).trans rfl
          have hfs85:=blk_frozen BK146.out 0
          have hns85_0:=NB144_146.out
          have hns85_1:=NB145_146.out
          have hns85_3:=NB156_146.out
          have hms85_0:=NB146_144.out
          have hms85_1:=NB146_145.out
          have hms85_3:=NB146_156.out
          have hs86:w84.cell? ⟨gb146,1,none⟩ = some (.string x147001_1):=(blk_cell BK146.out 1).trans rfl
          have hfs86:=blk_frozen BK146.out 1
          have hns86_0:=NB144_146.out
          have hns86_1:=NB145_146.out
          have hns86_3:=NB156_146.out
          have hms86_0:=NB146_144.out
          have hms86_1:=NB146_145.out
          have hms86_3:=NB146_156.out
          refine skip_ (w1:=?_) (by rfl) rfl ?_ ?_
          rotate_left
          ·go_simp
           rfl
          refine hK.out _ _ ?_
          clear hK K
          refine pure_ (i:=15) (N:=some 5) (v:=?_) (a':=?_) #[tT,tT,tT,tT,tT,tT,tT,tT,tT,tT,tT,tT,tT,tT,tT,tT] rfl rfl (any_of HT_.out (by kernel_rfl)) (fun _ _ _ h=>h) (Or.inl ⟨by rfl,?_⟩) ?_ ?_
          rotate_left
          ·intro w'
           go_simp
           with_reducible rfl
          rotate_left
          ·simp only [Act.put,sI,sZ,sS,i64_w,i32_w]
           rfl
          refine done_ (done_of HT_.out (by kernel_rfl)) ?_
          try go_wp2
          refine bodyPost_ret (results_ct rfl _ _ gb146 27 #[.string t168,.string t169] (0,0) _ rfl (by (with_reducible repeat (first|apply yN|apply yD|apply yA));refine blk_put (cs:=#[.string t168,.string x147001_1]) ?_ 1 _ rfl;(with_reducible repeat (first|apply yN|apply yD|apply yA));refine blk_put (cs:=#[.string x147000_1,.string x147001_1]) ?_ 0 _ rfl;(with_reducible repeat (first|apply yN|apply yD|apply yA));exact BK146.out) Try.underlying27 rfl (by kernel_rfl)) rfl ?_
          exact ⟨by first|rfl|(simp [errW_none,errW_some] <;> rfl)|(simp [*,errW_none,errW_some] <;> rfl),by first|exact bb HB|exact bg HB GE144|exact bg HB GE145|exact bg HB GE146|exact bg HB GE156⟩
         ·rw [if_neg c69] at H
          exact absurd H (by simp)
        ·rw [if_neg c68] at H
         exact absurd H (by simp)
     ·rw [if_neg c29] at H
      have c29b0:decide (0 ≤ t161) = false:=decide_eq_false c29
      clear c29
      have H':=aM H
      clear H
      have hnb87:=NB145_144.out
      have hnc87:=NB144_145.out
      have hnb88:=NB145_146.out
      have hnc88:=NB146_145.out
      have⟨a0,a1,a2,a3,a4,a5,b0,b1,b2,b3,b4,b5⟩:=q6f BK145
      go_wp2_with (first|((with_reducible refine gate_callee (f:=17) rfl ?_);refine goesL_ (some 24) rfl rfl Try.func17 (by kernel_rfl) rfl #[.agg #[.string x146000_1,.string x146001_1,.string x146002_1,.string x146003_1,.string x146004_1,.string x146005_1]] rfl (by (try simp only [sM,sC,sN]);first|done|rfl|(simp only [List.length_drop,List.length_take];rfl)) ?_;(with_reducible refine (spec_l06Same.calls k1 x146000_1 x146001_1 x146002_1 x146003_1 x146004_1 x146005_1 t153 t154 false _ A11.out).mono ?_);rintro e w90 ⟨rfl,hb⟩;refine ⟨_,rfl,?_⟩;replace HO_6:=ko HO_6 hb;replace HO_7:=ko HO_7 hb;replace BK144:=kb BK144 hb;replace BK145:=kb BK145 hb;replace BK146:=kb BK146 hb;replace HB:=aM (below_step (by first|exact bb HB|exact bg HB GE144|exact bg HB GE145|exact bg HB GE146) hb);(try clear hb))|((with_reducible refine gate_dst (N:=9) rfl ?_);refine box_event ?hg (N:=9) ?hd (cs:=#[.string ⟨#[]⟩,.string ⟨#[]⟩]) (t:=27) ?hr ?_;(case hd=>rfl);(case hg=>rfl);(case hr=>first|(go_simp;done)|(go_simp;rfl));intro gb156 hg w91 hbox hb;have BK156:=aM (hbox);have GW156:=aM ((by rw [hg];exact (below_size (by first|exact bb HB|exact bg HB GE144|exact bg HB GE145|exact bg HB GE146)):w.heap.size ≤ gb156));have GE156:=aM ((by rw [hg];exact (below_size (by first|exact bb HB|exact bg HB GE144|exact bg HB GE145|exact bg HB GE146)):w.heap.size ≤ gb156));have NB144_156:=nl hg BK144;have NB156_144:=nr hg BK144;have NB145_156:=nl hg BK145;have NB156_145:=nr hg BK145;have NB146_156:=nl hg BK146;have NB156_146:=nr hg BK146;replace HO_6:=ko HO_6 hb;replace HO_7:=ko HO_7 hb;replace BK144:=kb BK144 hb;replace BK145:=kb BK145 hb;replace BK146:=kb BK146 hb;replace HB:=aM (below_step (by first|exact bb HB|exact bg HB GE144|exact bg HB GE145|exact bg HB GE146) hb);clear hb hbox hg;have hnb92:=NB156_144.out;have hnc92:=NB144_156.out;have hnb93:=NB156_145.out;have hnc93:=NB145_156.out;have hnb94:=NB156_146.out;have hnc94:=NB146_156.out;have⟨a0,a1,b0,b1⟩:=q2f BK156;have⟨a0,a1,a2,a3,a4,a5,b0,b1,b2,b3,b4,b5⟩:=q6f BK145)|((with_reducible refine gate_callee (f:=19) rfl ?_);refine goesL_ (some 40) rfl rfl Try.func19 (by kernel_rfl) rfl #[.agg #[.string x146000_1,.string x146001_1,.string x146002_1,.string x146003_1,.string x146004_1,.string x146005_1]] rfl (by (try simp only [sM,sC,sN]);first|done|rfl|(simp only [List.length_drop,List.length_take];rfl)) ?_;(with_reducible refine (spec_l06Letters.calls x146000_1 x146001_1 x146002_1 x146003_1 x146004_1 x146005_1 t160 t161 _ A28.out).mono ?_);rintro e w97 ⟨rfl,hb⟩;refine ⟨_,rfl,?_⟩;replace HO_6:=aM (Kd.R_below (by (with_reducible repeat (first|apply rA|apply rN|apply rD));exact (Kd.R_mono (Kd.R_far (p:=⟨gb156,1,none⟩) (Kd.R_far (p:=⟨gb156,0,none⟩) (Kd.R_types HO_6.out BK156.out (by decide)) (fun _ hk=>hk.2) (.string t153)) (fun _ hk=>hk.2) (.string t154)) (fun _ h_=>h_.1))) hb);replace HO_7:=aM (Kd.R_below (by (with_reducible repeat (first|apply rA|apply rN|apply rD));exact (Kd.R_mono (Kd.R_far (p:=⟨gb156,1,none⟩) (Kd.R_far (p:=⟨gb156,0,none⟩) (Kd.R_types HO_7.out BK156.out (by decide)) (fun _ hk=>hk.2) (.string t153)) (fun _ hk=>hk.2) (.string t154)) (fun _ h_=>h_.1))) hb);replace BK144:=kf BK144 NB144_156 hb;replace BK145:=kf BK145 NB145_156 hb;replace BK146:=kf BK146 NB146_156 hb;replace BK156:=aM (blk_below (g:=gb156) (o:=.cells #[.string t153,.string t154] 27 (0,0)) (by (with_reducible repeat (first|apply yN|apply yD|apply yA));refine blk_put (cs:=#[.string t153,.string ⟨#[]⟩]) ?_ 1 _ rfl;(with_reducible repeat (first|apply yN|apply yD|apply yA));refine blk_put (cs:=#[.string ⟨#[]⟩,.string ⟨#[]⟩]) ?_ 0 _ rfl;(with_reducible repeat (first|apply yN|apply yD|apply yA));exact BK156.out) hb);replace HB:=aM (below_step (by first|exact bb HB|exact bg HB GE144|exact bg HB GE145|exact bg HB GE146|exact bg HB GE156) hb);(try clear hb)))
      go_loopg [13] k1 (fun kq v13 w'=>∃ (x13_2:Int) (x147000_2:ByteArray) (x147001_2:ByteArray),v13 = .int .i64 x13_2 ∧ Aside0 (spec_l06Middle.l1 kq x6_1 x7_1 x8_1 t160 x13_2 a0_0 a0_1 x146000_1 x146001_1 x146002_1 x146003_1 x146004_1 x146005_1 = some (r1,r2,r3)) ∧ Aside0 (kq ≤ k1) ∧ Aside0 (Kd.R (Kd.int .u8) 5 w' w.heap.size (fun _=>True) u6 x6_1) ∧ Aside0 (Kd.R k36 36 w' w.heap.size (fun k_=>k_ ≠ gb145) u7 x7_1) ∧ Aside0 (w'.heap[gb144]? = some (.cells #[.string a0_0,.string a0_1] 27 (0,0))) ∧ Aside0 (w'.heap[gb145]? = some (.cells #[.string x146000_1,.string x146001_1,.string x146002_1,.string x146003_1,.string x146004_1,.string x146005_1] 36 (0,0))) ∧ Aside0 (w'.heap[gb146]? = some (.cells #[.string x147000_2,.string x147001_2] 27 (0,0))) ∧ Aside0 (w'.heap[gb156]? = some (.cells #[.string t153,.string t154] 27 (0,0))) ∧ Aside0 (Below w.heap.size w w'))
      case atStart=>exact ⟨(0),(x147000_1),(x147001_1),(by first|rfl|(simp;done)|(simp [*];done)),H',⟨Nat.le_refl _⟩,⟨rk HO_6⟩,⟨rk HO_7⟩,⟨bk BK144⟩,⟨bk BK145⟩,⟨bk BK146⟩,⟨bk BK156⟩,⟨by first|exact bb HB|exact bg HB GE144|exact bg HB GE145|exact bg HB GE146|exact bg HB GE156⟩⟩
      case round =>
       clear H'
       try clear c1
       try clear c2
       try clear p2
       try clear c3
       try clear c4
       try clear c5
       try clear c6
       try clear hcv6
       try clear c7
       try clear c8
       try clear hcv8
       try clear c9
       try clear c17
       try clear c18
       try clear c19
       try clear c29
       try clear c29b0
       try clear c30
       try clear c31
       try clear c49
       try clear c50
       try clear c50b0
       try clear c50b1
       try clear c50b2
       try clear c52
       try clear c53
       try clear c57
       try clear c58
       try clear c59
       try clear hcv64
       try clear c68
       try clear c69
       try clear c69b0
       try clear c69b1
       try clear c69b2
       try clear c71
       try clear c72
       try clear c76
       try clear c77
       try clear c78
       try clear hcv83
       try clear c87
       try clear c88
       try clear c92
       try clear c93
       try clear c94
       try clear hcz54_0
       try clear hcz54_1
       try clear hcz54_2
       try clear hcz54_3
       try clear hcz54_4
       try clear hcz54_5
       try clear hcz60_0
       try clear hcz60_1
       try clear hcz61_0
       try clear hcz61_1
       try clear hcz61_2
       try clear hcz61_3
       try clear hcz61_4
       try clear hcz61_5
       try clear hcz73_0
       try clear hcz73_1
       try clear hcz73_2
       try clear hcz73_3
       try clear hcz73_4
       try clear hcz73_5
       try clear hcz79_0
       try clear hcz79_1
       try clear hcz80_0
       try clear hcz80_1
       try clear hcz80_2
       try clear hcz80_3
       try clear hcz80_4
       try clear hcz80_5
       try clear hcz89_0
       try clear hcz89_1
       try clear hcz89_2
       try clear hcz89_3
       try clear hcz89_4
       try clear hcz89_5
       try clear hcz95_0
       try clear hcz95_1
       try clear hcz96_0
       try clear hcz96_1
       try clear hcz96_2
       try clear hcz96_3
       try clear hcz96_4
       try clear hcz96_5
       try clear hfz54_0
       try clear hfz54_1
       try clear hfz54_2
       try clear hfz54_3
       try clear hfz54_4
       try clear hfz54_5
       try clear hfz60_0
       try clear hfz60_1
       try clear hfz61_0
       try clear hfz61_1
       try clear hfz61_2
       try clear hfz61_3
       try clear hfz61_4
       try clear hfz61_5
       try clear hfz73_0
       try clear hfz73_1
       try clear hfz73_2
       try clear hfz73_3
       try clear hfz73_4
       try clear hfz73_5
       try clear hfz79_0
       try clear hfz79_1
       try clear hfz80_0
       try clear hfz80_1
       try clear hfz80_2
       try clear hfz80_3
       try clear hfz80_4
       try clear hfz80_5
       try clear hfz89_0
       try clear hfz89_1
       try clear hfz89_2
       try clear hfz89_3
       try clear hfz89_4
       try clear hfz89_5
       try clear hfz95_0
       try clear hfz95_1
       try clear hfz96_0
       try clear hfz96_1
       try clear hfz96_2
       try clear hfz96_3
       try clear hfz96_4
       try clear hfz96_5
       obtain ⟨x13_2,x147000_2,x147001_2,rfl,HA,HK2,HO_6,HO_7,BK144,BK145,BK146,BK156,HB⟩:=hrel
       cases gk with
       | zero=>exact absurd HA.out (by simp [spec_l06Middle.l1])
       | succ k2 =>
        have H:=HA.out
        clear HA
        simp only [spec_l06Middle.l1] at H
        by_cases c98:x13_2 < (x7_1.length:Int)
        ·rw [if_pos c98] at H
         have c98b0:decide (x13_2 < (x7_1.length:Int)) = true:=decide_eq_true c98
         clear c98
         by_cases c99:0 ≤ x13_2
         ·rw [if_pos c99] at H
          have c99b0:decide (0 ≤ x13_2) = true:=decide_eq_true c99
          clear c99
          by_cases c100:(((((rd_T36 x7_1 x13_2).f0.f0).toList) == x146000_1.toList && ((((rd_T36 x7_1 x13_2).f0.f1).toList) == x146001_1.toList)) && (((((rd_T36 x7_1 x13_2).f1.f0).toList) == x146002_1.toList && ((((rd_T36 x7_1 x13_2).f1.f1).toList) == x146003_1.toList)) && (((((rd_T36 x7_1 x13_2).f2.f0).toList) == x146004_1.toList && ((((rd_T36 x7_1 x13_2).f2.f1).toList) == x146005_1.toList))))) = true
          ·rw [if_pos c100] at H
           have c100b0:(((((rd_T36 x7_1 x13_2).f0.f0).toList) == x146000_1.toList && ((((rd_T36 x7_1 x13_2).f0.f1).toList) == x146001_1.toList)) && (((((rd_T36 x7_1 x13_2).f1.f0).toList) == x146002_1.toList && ((((rd_T36 x7_1 x13_2).f1.f1).toList) == x146003_1.toList)) && (((((rd_T36 x7_1 x13_2).f2.f0).toList) == x146004_1.toList && ((((rd_T36 x7_1 x13_2).f2.f1).toList) == x146005_1.toList))))) = true:=c100
           clear c100
           have c101b0:=eq_true (of_decide_eq_true (by first|(with_reducible assumption)|assumption):0 ≤ x13_2)
           by_cases c102:x13_2 ≤ (x6_1.length:Int)
           ·rw [if_pos c102] at H
            have c102b0:=eq_true c102
            have c102b1:decide (x13_2 ≤ (x6_1.length:Int)) = true:=decide_eq_true c102
            clear c102
            obtain ⟨y172,hy172⟩:∃ y_:List Int,y_ = (x6_1.take (x13_2:Int).toNat):=⟨_,rfl⟩
            replace H:((spec_l06Told.f k2 (strOfNums y172) (strOfNums (x6_1.drop (x13_2:Int).toNat))).bind fun bt180=>(some (bt180.1,bt180.2.1,bt180.2.2))) = some (r1,r2,r3):=by first|(rw [hy172];with_reducible exact H)|(have H2_:=(Option.bind_some _ _).symm.trans H;rw [hy172];with_reducible exact H2_)|(have H2_:=(Option.bind_some _ _).symm.trans H;with_reducible exact H2_)|with_reducible exact H|(rw [hy172];exact H)|exact H
            have Ny172:=aM hy172
            clear hy172
            have c103b0:=eq_true (of_decide_eq_true (by first|(with_reducible assumption)|assumption):0 ≤ x13_2)
            have c104b0:=eq_true (of_decide_eq_true (by first|(with_reducible assumption)|assumption):x13_2 ≤ (x6_1.length:Int))
            obtain ⟨y176,hy176⟩:∃ y_:List Int,y_ = (x6_1.drop (x13_2:Int).toNat):=⟨_,rfl⟩
            replace H:((spec_l06Told.f k2 (strOfNums y172) (strOfNums y176)).bind fun bt180=>(some (bt180.1,bt180.2.1,bt180.2.2))) = some (r1,r2,r3):=by first|(rw [hy176];with_reducible exact H)|(have H2_:=(Option.bind_some _ _).symm.trans H;rw [hy176];with_reducible exact H2_)|(have H2_:=(Option.bind_some _ _).symm.trans H;with_reducible exact H2_)|with_reducible exact H|(rw [hy176];exact H)|exact H
            have Ny176:=aM hy176
            clear hy176
            replace H:=Option.bind_eq_some_iff.mp H
            obtain ⟨⟨t180,t181,t182⟩,A1050,H⟩:=H
            replace H:(some (t180,t181,t182)) = some (r1,r2,r3):=H;have A105:=aM A1050
            clear A1050
            simp only [Option.some.injEq,Prod.mk.injEq] at H
            obtain ⟨rfl,rfl,rfl⟩:=H
            obtain ⟨Ao106,co106,eo106⟩:=Kd.R_slice HO_7.out
            subst eo106
            try go_wp2
            replace HO_6:=aM (rD HO_6.out);replace HO_7:=aM (rD HO_7.out);replace BK144:=aM (yD BK144.out);replace BK145:=aM (yD BK145.out);replace BK146:=aM (yD BK146.out);replace BK156:=aM (yD BK156.out);replace HB:=aM (zD HB.out)
            have p171:0 ≤ (x13_2:Int):=of_decide_eq_true (by first|(with_reducible assumption)|assumption)
            have q171:x13_2 < (x7_1.length:Int):=of_decide_eq_true (by first|(with_reducible assumption)|assumption)
            obtain ⟨ad171,e171,hx171_0,hx171_1,hx171_2,hx171_3,hx171_4,hx171_5⟩:=at_T36 (Kd.R_reads' HO_7.out).2.2 x13_2 p171 q171
            cases e171
            replace p171:=eq_true p171;replace q171:=eq_true q171
            refine start_ (n:=6) (S:=fun w'=>w'.cell? ⟨gb145,0,none⟩ = some (.string x146000_1) ∧ w'.cell? ⟨gb145,1,none⟩ = some (.string x146001_1) ∧ w'.cell? ⟨gb145,2,none⟩ = some (.string x146002_1) ∧ w'.cell? ⟨gb145,3,none⟩ = some (.string x146003_1) ∧ w'.cell? ⟨gb145,4,none⟩ = some (.string x146004_1) ∧ w'.cell? ⟨gb145,5,none⟩ = some (.string x146005_1) ∧ w'.cell? (ad171.add ((x13_2).toNat * 6)) = some (.string ((rd_T36 x7_1 x13_2).f0.f0)) ∧ w'.cell? ⟨(ad171.add ((x13_2).toNat * 6)).block,(ad171.add ((x13_2).toNat * 6)).off + 1,none⟩ = some (.string ((rd_T36 x7_1 x13_2).f0.f1)) ∧ w'.cell? ⟨(ad171.add ((x13_2).toNat * 6)).block,(ad171.add ((x13_2).toNat * 6)).off + 2,none⟩ = some (.string ((rd_T36 x7_1 x13_2).f1.f0)) ∧ w'.cell? ⟨(ad171.add ((x13_2).toNat * 6)).block,(ad171.add ((x13_2).toNat * 6)).off + 3,none⟩ = some (.string ((rd_T36 x7_1 x13_2).f1.f1)) ∧ w'.cell? ⟨(ad171.add ((x13_2).toNat * 6)).block,(ad171.add ((x13_2).toNat * 6)).off + 4,none⟩ = some (.string ((rd_T36 x7_1 x13_2).f2.f0)) ∧ w'.cell? ⟨(ad171.add ((x13_2).toNat * 6)).block,(ad171.add ((x13_2).toNat * 6)).off + 5,none⟩ = some (.string ((rd_T36 x7_1 x13_2).f2.f1))) (ds:=[]) #[fF,fF,fF,fF,fF,fF] (by kernel_rfl) rfl rfl ⟨(blk_cell BK145.out 0).trans rfl,(blk_cell BK145.out 1).trans rfl,(blk_cell BK145.out 2).trans rfl,(blk_cell BK145.out 3).trans rfl,(blk_cell BK145.out 4).trans rfl,(blk_cell BK145.out 5).trans rfl,hx171_0,hx171_1,hx171_2,hx171_3,hx171_4,hx171_5⟩ (fun hHeld=>?_)
            generalize wr.drew = w107 at HO_6 HO_7 BK144 BK145 BK146 BK156 HB hx171_0 hx171_1 hx171_2 hx171_3 hx171_4 hx171_5 hHeld ⊢
            refine pure_ (i:=0) (N:=some 65) (v:=?_) (a':=?_) #[tT,fF,fF,fF,fF,fF] rfl rfl (by kernel_rfl) (fun _ _ _ h=>h) (Or.inl ⟨by rfl,?_⟩) ?_ ?_
            rotate_left
            ·intro w'
             go_simp
             with_reducible rfl
            rotate_left
            ·simp only [Act.put,sI,sZ,sS,i64_w,i32_w]
             rfl
            refine pure_ (i:=1) (N:=some 66) (v:=?_) (a':=?_) #[tT,tT,fF,fF,fF,fF] rfl rfl (by kernel_rfl) (fun _ _ _ h=>h) (Or.inl ⟨by rfl,?_⟩) ?_ ?_
            rotate_left
            ·intro w'
             go_simp
             with_reducible rfl
            rotate_left
            ·simp only [Act.put,sI,sZ,sS,i64_w,i32_w]
             rfl
            refine pure_ (i:=2) (N:=some 67) (v:=?_) (a':=?_) #[tT,tT,tT,fF,fF,fF] rfl rfl (by kernel_rfl) (fun _ _ _ h=>h) (Or.inl ⟨by rfl,?_⟩) ?_ ?_
            rotate_left
            ·intro w'
             go_simp
             with_reducible rfl
            rotate_left
            ·simp only [Act.put,sI,sZ,sS,i64_w,i32_w]
             rfl
            refine take_ (i:=3) (N:=some 68) (v:=?_) (a':=?_) #[tT,tT,tT,tT,fF,fF] rfl rfl (by kernel_rfl) (fun _ _ _ h=>h) (Or.inl ⟨by rfl,?_⟩) hHeld ?_ ?_
            rotate_left
            ·rintro w' ⟨s0,s1,s2,s3,s4,s5,s6,s7,s8,s9,s10,s11⟩
             go_simp
             with_reducible rfl
            rotate_left
            ·simp only [Act.put,sI,sZ,sS,i64_w,i32_w]
             rfl
            refine take_ (i:=4) (N:=some 69) (v:=?_) (a':=?_) #[tT,tT,tT,tT,tT,fF] rfl rfl (by kernel_rfl) (fun _ _ _ h=>h) (Or.inl ⟨by rfl,?_⟩) hHeld ?_ ?_
            rotate_left
            ·rintro w' ⟨s0,s1,s2,s3,s4,s5,s6,s7,s8,s9,s10,s11⟩
             go_simp
             with_reducible rfl
            rotate_left
            ·simp only [Act.put,sI,sZ,sS,i64_w,i32_w]
             rfl
            refine pure_ (i:=5) (N:=some 70) (v:=?_) (a':=?_) #[tT,tT,tT,tT,tT,tT] rfl rfl (by kernel_rfl) (fun _ _ _ h=>h) (Or.inl ⟨by rfl,?_⟩) ?_ ?_
            rotate_left
            ·intro w'
             go_simp
             with_reducible rfl
            rotate_left
            ·simp only [Act.put,sI,sZ,sS,i64_w,i32_w]
             rfl
            refine done_ (by kernel_rfl) ?_
            try go_wp2
            replace HO_6:=aM (rD HO_6.out);replace HO_7:=aM (rD HO_7.out);replace BK144:=aM (yD BK144.out);replace BK145:=aM (yD BK145.out);replace BK146:=aM (yD BK146.out);replace BK156:=aM (yD BK156.out);replace HB:=aM (zD HB.out)
            obtain ⟨Ao110,co110,eo110⟩:=Kd.R_slice HO_6.out
            (first|subst eo110|(injection eo110 with f1_ f2_ f3_;have f4_:=f1_.symm;have f5_:=f3_.symm;clear f1_ f2_ f3_;subst f4_;subst f5_))
            have q109:(x13_2:Int) ≤ ((x6_1.length:Int):Int):=of_decide_eq_true (by first|(with_reducible assumption)|assumption)
            obtain ⟨i0109,hi0109,_,hsz109,_⟩:=info_parts info5
            have hroom109:x6_1.length ≤ co110:=(Kd.R_reads' HO_6.out).2.1
            have hC109:Kd.C (Kd.int .u8) _ Ao110 x6_1.length x6_1:=(Kd.R_reads' HO_6.out).2.2
            have hcut109:=cut_to (P:=Try.prog) 42 5 .i64 Try.underlying42 hi0109 Ao110 x6_1.length co110 x13_2 (of_decide_eq_true (by first|(with_reducible assumption)|assumption)) q109 hroom109
            have hr109:=Kd.C_take (m:=(x13_2:Int).toNat) hC109 (by omega)
            have hy109:y172.length = (x13_2:Int).toNat:=(by rw [Ny172.out,List.length_take];omega)
            rw [← Ny172.out] at hr109
            rw [← hy109] at hcut109
            have HR175:=aM hr109;have HC175:=aM (show y172.length ≤ co110 from by omega)
            clear hr109 hC109 hroom109 hi0109 hsz109
            have KY109:=aM hy109
            clear hy109
            have KL109:=aM (show (x13_2:Int).toNat ≤ x6_1.length from by omega);replace q109:=eq_true q109
            have q111:(x13_2:Int) ≤ ((x6_1.length:Int):Int):=of_decide_eq_true (by first|(with_reducible assumption)|assumption)
            obtain ⟨i0111,hi0111,_,hsz111,_⟩:=info_parts info5
            have hroom111:x6_1.length ≤ co110:=(Kd.R_reads' HO_6.out).2.1
            have hC111:Kd.C (Kd.int .u8) _ Ao110 x6_1.length x6_1:=(Kd.R_reads' HO_6.out).2.2
            have q0111:(0:Int) ≤ (x13_2:Int):=of_decide_eq_true (by first|(with_reducible assumption)|assumption)
            have hcut111:=cut_from (P:=Try.prog) 42 5 .i64 Try.underlying42 hi0111 1 hsz111 Ao110 x6_1.length co110 x13_2 q0111 q111
            have hr111:=Kd.C_drop (m:=(x13_2:Int).toNat) (c:=co110) hC111 (by omega) hroom111
            obtain ⟨A111,hA111⟩:∃ A1,A1 = (if co110 = (x13_2:Int).toNat then Ao110 else (Ao110:Option Addr).map (·.add ((x13_2:Int).toNat * 1))):=⟨_,rfl⟩
            obtain ⟨c111,hc111⟩:∃ c1,c1 = co110 - (x13_2:Int).toNat:=⟨_,rfl⟩
            have hy111:y176.length = x6_1.length - (x13_2:Int).toNat:=(by rw [Ny176.out,List.length_drop] <;> omega)
            rw [show (x6_1).drop (x13_2:Int).toNat = y176 from Ny176.out.symm] at hr111
            replace hr111:Kd.C (Kd.int .u8) _ A111 y176.length y176:=(by rw [hA111];exact hr111)
            rw [← hy111,← hA111,← hc111] at hcut111
            have HR179:=aM hr111;have HC179:=aM (show y176.length ≤ c111 from by rw [hy111,hc111];exact Nat.sub_le_sub_right hroom111 _)
            clear hr111 hC111 hroom111 hi0111 hsz111 hc111
            have KY111:=aM hy111;have KA111:=aM hA111
            clear hy111 hA111
            have KL111:=aM (show (x13_2:Int).toNat ≤ x6_1.length from by omega);replace q111:=eq_true q111
            have hcv112:=Kd.C_string (P:=Try.prog) (A:=Ao110) (c:=co110) Try.underlying42 Try.underlying5 Try.underlying9 (by repeat (first|(with_reducible exact HR175.out)|(with_reducible refine cA ?_ _)|(with_reducible refine cN ?_ _)|(with_reducible refine cD ?_)|exact HR175.out))
            have hcv113:=Kd.C_string (P:=Try.prog) (A:=A111) (c:=c111) Try.underlying42 Try.underlying5 Try.underlying9 (by repeat (first|(with_reducible exact HR179.out)|(with_reducible refine cA ?_ _)|(with_reducible refine cN ?_ _)|(with_reducible refine cD ?_)|exact HR179.out))
            refine start_ (n:=13) (S:=fun w'=>Kd.C (Kd.int .u8) w' Ao110 y172.length y172 ∧ Kd.C (Kd.int .u8) w' A111 y176.length y176) (ds:=[11]) #[fF,fF,fF,fF,fF,fF,fF,fF,fF,fF,fF,fF,fF] (by kernel_rfl) rfl rfl ⟨HR175.out,HR179.out⟩ (fun hHeld=>?_);refine with_tabW spec_l06Middle.tab15 spec_l06Middle.bits15 (fun HT_ HW_=>?_)
            generalize w107.drew = w108 at HO_6 HO_7 BK144 BK145 BK146 BK156 HB HR175 HR179 hHeld ⊢
            refine pure_ (i:=0) (N:=some 71) (v:=?_) (a':=?_) #[tT,fF,fF,fF,fF,fF,fF,fF,fF,fF,fF,fF,fF] rfl rfl (any_of HT_.out (by kernel_rfl)) (fun _ _ _ h=>h) (Or.inl ⟨by rfl,?_⟩) ?_ ?_
            rotate_left
            ·intro w'
             go_simp
             with_reducible rfl
            rotate_left
            ·simp only [Act.put,sI,sZ,sS,i64_w,i32_w]
             rfl
            refine pure_ (i:=1) (N:=some 72) (v:=?_) (a':=?_) #[tT,tT,fF,fF,fF,fF,fF,fF,fF,fF,fF,fF,fF] rfl rfl (any_of HT_.out (by kernel_rfl)) (fun _ _ _ h=>h) (Or.inl ⟨by rfl,?_⟩) ?_ ?_
            rotate_left
            ·intro w'
             go_simp
             with_reducible rfl
            rotate_left
            ·simp only [Act.put,sI,sZ,sS,i64_w,i32_w]
             rfl
            refine pure_ (i:=2) (N:=some 73) (v:=?_) (a':=?_) #[tT,tT,tT,fF,fF,fF,fF,fF,fF,fF,fF,fF,fF] rfl rfl (any_of HT_.out (by kernel_rfl)) (fun _ _ _ h=>h) (Or.inl ⟨by rfl,?_⟩) ?_ ?_
            rotate_left
            ·intro w'
             go_simp
             with_reducible rfl
            rotate_left
            ·simp only [Act.put,sI,sZ,sS,i64_w,i32_w]
             rfl
            refine take_ (i:=3) (N:=some 74) (v:=?_) (a':=?_) #[tT,tT,tT,tT,fF,fF,fF,fF,fF,fF,fF,fF,fF] rfl rfl (take_ofW HT_.out HW_.out (by kernel_rfl)) (fun _ _ _ h=>h) (Or.inl ⟨by rfl,?_⟩) hHeld ?_ ?_
            rotate_left
            ·rintro w' ⟨s0,s1⟩
             have hcv_:=Kd.C_string (P:=Try.prog) (A:=Ao110) (c:=co110) Try.underlying42 Try.underlying5 Try.underlying9 s0
             first|(go_simp;rw [hcv_];rfl)|(go_simp;with_reducible rfl)|(simp only [hcv_];rfl)
            rotate_left
            ·simp only [Act.put,sI,sZ,sS,i64_w,i32_w]
             rfl
            refine pure_ (i:=4) (N:=some 75) (v:=?_) (a':=?_) #[tT,tT,tT,tT,tT,fF,fF,fF,fF,fF,fF,fF,fF] rfl rfl (any_of HT_.out (by kernel_rfl)) (fun _ _ _ h=>h) (Or.inl ⟨by rfl,?_⟩) ?_ ?_
            rotate_left
            ·intro w'
             go_simp
             with_reducible rfl
            rotate_left
            ·simp only [Act.put,sI,sZ,sS,i64_w,i32_w]
             rfl
            refine pure_ (i:=5) (N:=some 76) (v:=?_) (a':=?_) #[tT,tT,tT,tT,tT,tT,fF,fF,fF,fF,fF,fF,fF] rfl rfl (any_of HT_.out (by kernel_rfl)) (fun _ _ _ h=>h) (Or.inl ⟨by rfl,?_⟩) ?_ ?_
            rotate_left
            ·intro w'
             go_simp
             with_reducible rfl
            rotate_left
            ·simp only [Act.put,sI,sZ,sS,i64_w,i32_w]
             rfl
            refine pure_ (i:=6) (N:=some 77) (v:=?_) (a':=?_) #[tT,tT,tT,tT,tT,tT,tT,fF,fF,fF,fF,fF,fF] rfl rfl (any_of HT_.out (by kernel_rfl)) (fun _ _ _ h=>h) (Or.inl ⟨by rfl,?_⟩) ?_ ?_
            rotate_left
            ·intro w'
             go_simp
             with_reducible rfl
            rotate_left
            ·simp only [Act.put,sI,sZ,sS,i64_w,i32_w]
             rfl
            refine take_ (i:=7) (N:=some 78) (v:=?_) (a':=?_) #[tT,tT,tT,tT,tT,tT,tT,tT,fF,fF,fF,fF,fF] rfl rfl (take_ofW HT_.out HW_.out (by kernel_rfl)) (fun _ _ _ h=>h) (Or.inl ⟨by rfl,?_⟩) hHeld ?_ ?_
            rotate_left
            ·rintro w' ⟨s0,s1⟩
             have hcv_:=Kd.C_string (P:=Try.prog) (A:=A111) (c:=c111) Try.underlying42 Try.underlying5 Try.underlying9 s1
             first|(go_simp;rw [hcv_];rfl)|(go_simp;with_reducible rfl)|(simp only [hcv_];rfl)
            rotate_left
            ·simp only [Act.put,sI,sZ,sS,i64_w,i32_w]
             rfl
            refine one_ (i:=8) (N:=some 79) #[tT,tT,tT,tT,tT,tT,tT,tT,tT,fF,fF,fF,fF] rfl rfl (one_of HT_.out (by kernel_rfl)) (by decide) (fun K hK=>?_)
            refine goes_ Try.func18 (by kernel_rfl) rfl #[.string (strOfNums y172),.string (strOfNums y176)] (by rfl) rfl rfl (by (try simp only [sM,sC,sN]);first|done|rfl|(simp only [List.length_drop,List.length_take];rfl)) ?_
            with_reducible refine (spec_l06Told.calls k2 (strOfNums y172) (strOfNums y176) t180 t181 t182 _ A105.out).mono ?_
            rintro e w115 ⟨rfl,hb⟩
            refine ⟨_,rfl,?_⟩
            replace HO_6:=ko HO_6 hb;replace HO_7:=ko HO_7 hb;replace BK144:=kb BK144 hb;replace BK145:=kb BK145 hb;replace BK146:=kb BK146 hb;replace BK156:=kb BK156 hb;replace HB:=aM (below_step (by first|exact bb HB|exact bg HB GE144|exact bg HB GE145|exact bg HB GE146|exact bg HB GE156) hb)
            have hS_:_ ∧ _:=⟨Kd.C_below HR175.out hb,Kd.C_below HR179.out hb⟩
            (try clear hb)
            refine hK.out _ _ hS_ (fun hHeld=>?_)
            clear hK K
            refine norm_ (a':=?_) ?_ ?_
            rotate_left
            ·show Act.put _ (some 79) _ = _
             simp only [Act.put,sI,sZ,sS,i64_w,i32_w]
             rfl
            refine pure_ (i:=9) (N:=some 80) (v:=?_) (a':=?_) #[tT,tT,tT,tT,tT,tT,tT,tT,tT,tT,fF,fF,fF] rfl rfl (any_of HT_.out (by kernel_rfl)) (fun _ _ _ h=>h) (Or.inl ⟨by rfl,?_⟩) ?_ ?_
            rotate_left
            ·intro w'
             go_simp
             with_reducible rfl
            rotate_left
            ·simp only [Act.put,sI,sZ,sS,i64_w,i32_w]
             rfl
            refine pure_ (i:=10) (N:=some 81) (v:=?_) (a':=?_) #[tT,tT,tT,tT,tT,tT,tT,tT,tT,tT,tT,fF,fF] rfl rfl (any_of HT_.out (by kernel_rfl)) (fun _ _ _ h=>h) (Or.inl ⟨by rfl,?_⟩) ?_ ?_
            rotate_left
            ·intro w'
             go_simp
             with_reducible rfl
            rotate_left
            ·simp only [Act.put,sI,sZ,sS,i64_w,i32_w]
             rfl
            refine last_ (i:=11) (N:=none) #[tT,tT,tT,tT,tT,tT,tT,tT,tT,tT,tT,tT,fF] rfl rfl (one_of HT_.out (by kernel_rfl)) (by decide) (fun K hK=>?_)
            have hs116:w115.cell? ⟨gb146,0,none⟩ = some (.string x147000_2):=(blk_cell BK146.out 0).trans rfl
            have hfs116:=blk_frozen BK146.out 0
            have hns116_0:=NB144_146.out
            have hns116_1:=NB145_146.out
            have hns116_3:=NB156_146.out
            have hms116_0:=NB146_144.out
            have hms116_1:=NB146_145.out
            have hms116_3:=NB146_156.out
            have hs117:w115.cell? ⟨gb146,1,none⟩ = some (.string x147001_2):=(blk_cell BK146.out 1).trans rfl
            have hfs117:=blk_frozen BK146.out 1
            have hns117_0:=NB144_146.out
            have hns117_1:=NB145_146.out
            have hns117_3:=NB156_146.out
            have hms117_0:=NB146_144.out
            have hms117_1:=NB146_145.out
            have hms117_3:=NB146_156.out
            refine skip_ (w1:=?_) (by rfl) rfl ?_ ?_
            rotate_left
            ·go_simp
             rfl
            refine hK.out _ _ ?_
            clear hK K
            refine pure_ (i:=12) (N:=some 5) (v:=?_) (a':=?_) #[tT,tT,tT,tT,tT,tT,tT,tT,tT,tT,tT,tT,tT] rfl rfl (any_of HT_.out (by kernel_rfl)) (fun _ _ _ h=>h) (Or.inl ⟨by rfl,?_⟩) ?_ ?_
            rotate_left
            ·intro w'
             go_simp
             with_reducible rfl
            rotate_left
            ·simp only [Act.put,sI,sZ,sS,i64_w,i32_w]
             rfl
            refine done_ (done_of HT_.out (by kernel_rfl)) ?_
            try go_wp2
            refine bodyPost_ret (results_ct rfl _ _ gb146 27 #[.string t180,.string t181] (0,0) _ rfl (by (with_reducible repeat (first|apply yN|apply yD|apply yA));refine blk_put (cs:=#[.string t180,.string x147001_2]) ?_ 1 _ rfl;(with_reducible repeat (first|apply yN|apply yD|apply yA));refine blk_put (cs:=#[.string x147000_2,.string x147001_2]) ?_ 0 _ rfl;(with_reducible repeat (first|apply yN|apply yD|apply yA));exact BK146.out) Try.underlying27 rfl (by kernel_rfl)) rfl ?_
            exact ⟨by first|rfl|(simp [errW_none,errW_some] <;> rfl)|(simp [*,errW_none,errW_some] <;> rfl),by first|exact bb HB|exact bg HB GE144|exact bg HB GE145|exact bg HB GE146|exact bg HB GE156⟩
           ·rw [if_neg c102] at H
            exact absurd H (by simp)
          ·rw [if_neg c100] at H
           have c100b0:(((((rd_T36 x7_1 x13_2).f0.f0).toList) == x146000_1.toList && ((((rd_T36 x7_1 x13_2).f0.f1).toList) == x146001_1.toList)) && (((((rd_T36 x7_1 x13_2).f1.f0).toList) == x146002_1.toList && ((((rd_T36 x7_1 x13_2).f1.f1).toList) == x146003_1.toList)) && (((((rd_T36 x7_1 x13_2).f2.f0).toList) == x146004_1.toList && ((((rd_T36 x7_1 x13_2).f2.f1).toList) == x146005_1.toList))))) = false:=by simpa using c100
           clear c100
           have H':=aM H
           clear H
           obtain ⟨Ao118,co118,eo118⟩:=Kd.R_slice HO_7.out
           subst eo118
           try go_wp2
           replace HO_6:=aM (rD HO_6.out);replace HO_7:=aM (rD HO_7.out);replace BK144:=aM (yD BK144.out);replace BK145:=aM (yD BK145.out);replace BK146:=aM (yD BK146.out);replace BK156:=aM (yD BK156.out);replace HB:=aM (zD HB.out)
           have p171:0 ≤ (x13_2:Int):=of_decide_eq_true (by first|(with_reducible assumption)|assumption)
           have q171:x13_2 < (x7_1.length:Int):=of_decide_eq_true (by first|(with_reducible assumption)|assumption)
           obtain ⟨ad171,e171,hx171_0,hx171_1,hx171_2,hx171_3,hx171_4,hx171_5⟩:=at_T36 (Kd.R_reads' HO_7.out).2.2 x13_2 p171 q171
           cases e171
           replace p171:=eq_true p171;replace q171:=eq_true q171
           refine start_ (n:=6) (S:=fun w'=>w'.cell? ⟨gb145,0,none⟩ = some (.string x146000_1) ∧ w'.cell? ⟨gb145,1,none⟩ = some (.string x146001_1) ∧ w'.cell? ⟨gb145,2,none⟩ = some (.string x146002_1) ∧ w'.cell? ⟨gb145,3,none⟩ = some (.string x146003_1) ∧ w'.cell? ⟨gb145,4,none⟩ = some (.string x146004_1) ∧ w'.cell? ⟨gb145,5,none⟩ = some (.string x146005_1) ∧ w'.cell? (ad171.add ((x13_2).toNat * 6)) = some (.string ((rd_T36 x7_1 x13_2).f0.f0)) ∧ w'.cell? ⟨(ad171.add ((x13_2).toNat * 6)).block,(ad171.add ((x13_2).toNat * 6)).off + 1,none⟩ = some (.string ((rd_T36 x7_1 x13_2).f0.f1)) ∧ w'.cell? ⟨(ad171.add ((x13_2).toNat * 6)).block,(ad171.add ((x13_2).toNat * 6)).off + 2,none⟩ = some (.string ((rd_T36 x7_1 x13_2).f1.f0)) ∧ w'.cell? ⟨(ad171.add ((x13_2).toNat * 6)).block,(ad171.add ((x13_2).toNat * 6)).off + 3,none⟩ = some (.string ((rd_T36 x7_1 x13_2).f1.f1)) ∧ w'.cell? ⟨(ad171.add ((x13_2).toNat * 6)).block,(ad171.add ((x13_2).toNat * 6)).off + 4,none⟩ = some (.string ((rd_T36 x7_1 x13_2).f2.f0)) ∧ w'.cell? ⟨(ad171.add ((x13_2).toNat * 6)).block,(ad171.add ((x13_2).toNat * 6)).off + 5,none⟩ = some (.string ((rd_T36 x7_1 x13_2).f2.f1))) (ds:=[]) #[fF,fF,fF,fF,fF,fF] (by kernel_rfl) rfl rfl ⟨(blk_cell BK145.out 0).trans rfl,(blk_cell BK145.out 1).trans rfl,(blk_cell BK145.out 2).trans rfl,(blk_cell BK145.out 3).trans rfl,(blk_cell BK145.out 4).trans rfl,(blk_cell BK145.out 5).trans rfl,hx171_0,hx171_1,hx171_2,hx171_3,hx171_4,hx171_5⟩ (fun hHeld=>?_)
           generalize wr.drew = w119 at HO_6 HO_7 BK144 BK145 BK146 BK156 HB hx171_0 hx171_1 hx171_2 hx171_3 hx171_4 hx171_5 hHeld ⊢
           refine pure_ (i:=0) (N:=some 65) (v:=?_) (a':=?_) #[tT,fF,fF,fF,fF,fF] rfl rfl (by kernel_rfl) (fun _ _ _ h=>h) (Or.inl ⟨by rfl,?_⟩) ?_ ?_
           rotate_left
           ·intro w'
            go_simp
            with_reducible rfl
           rotate_left
           ·simp only [Act.put,sI,sZ,sS,i64_w,i32_w]
            rfl
           refine pure_ (i:=1) (N:=some 66) (v:=?_) (a':=?_) #[tT,tT,fF,fF,fF,fF] rfl rfl (by kernel_rfl) (fun _ _ _ h=>h) (Or.inl ⟨by rfl,?_⟩) ?_ ?_
           rotate_left
           ·intro w'
            go_simp
            with_reducible rfl
           rotate_left
           ·simp only [Act.put,sI,sZ,sS,i64_w,i32_w]
            rfl
           refine pure_ (i:=2) (N:=some 67) (v:=?_) (a':=?_) #[tT,tT,tT,fF,fF,fF] rfl rfl (by kernel_rfl) (fun _ _ _ h=>h) (Or.inl ⟨by rfl,?_⟩) ?_ ?_
           rotate_left
           ·intro w'
            go_simp
            with_reducible rfl
           rotate_left
           ·simp only [Act.put,sI,sZ,sS,i64_w,i32_w]
            rfl
           refine take_ (i:=3) (N:=some 68) (v:=?_) (a':=?_) #[tT,tT,tT,tT,fF,fF] rfl rfl (by kernel_rfl) (fun _ _ _ h=>h) (Or.inl ⟨by rfl,?_⟩) hHeld ?_ ?_
           rotate_left
           ·rintro w' ⟨s0,s1,s2,s3,s4,s5,s6,s7,s8,s9,s10,s11⟩
            go_simp
            with_reducible rfl
           rotate_left
           ·simp only [Act.put,sI,sZ,sS,i64_w,i32_w]
            rfl
           refine take_ (i:=4) (N:=some 69) (v:=?_) (a':=?_) #[tT,tT,tT,tT,tT,fF] rfl rfl (by kernel_rfl) (fun _ _ _ h=>h) (Or.inl ⟨by rfl,?_⟩) hHeld ?_ ?_
           rotate_left
           ·rintro w' ⟨s0,s1,s2,s3,s4,s5,s6,s7,s8,s9,s10,s11⟩
            go_simp
            with_reducible rfl
           rotate_left
           ·simp only [Act.put,sI,sZ,sS,i64_w,i32_w]
            rfl
           refine pure_ (i:=5) (N:=some 70) (v:=?_) (a':=?_) #[tT,tT,tT,tT,tT,tT] rfl rfl (by kernel_rfl) (fun _ _ _ h=>h) (Or.inl ⟨by rfl,?_⟩) ?_ ?_
           rotate_left
           ·intro w'
            go_simp
            with_reducible rfl
           rotate_left
           ·simp only [Act.put,sI,sZ,sS,i64_w,i32_w]
            rfl
           refine done_ (by kernel_rfl) ?_
           try go_wp2
           go_roundg k2
           case measure=>have:=HK1.out;have:=HK2.out;omega
           case rel=>exact ⟨(wrap64 (x13_2 + 1)),(x147000_2),(x147001_2),(by first|rfl|(simp;done)|(simp [*];done)),H',⟨by have:=HK1.out;have:=HK2.out;omega⟩,⟨rk HO_6⟩,⟨rk HO_7⟩,⟨bk BK144⟩,⟨bk BK145⟩,⟨bk BK146⟩,⟨bk BK156⟩,⟨by first|exact bb HB|exact bg HB GE144|exact bg HB GE145|exact bg HB GE146|exact bg HB GE156⟩⟩
         ·rw [if_neg c99] at H
          exact absurd H (by simp)
        ·rw [if_neg c98] at H
         have c98b0:decide (x13_2 < (x7_1.length:Int)) = false:=decide_eq_false c98
         clear c98
         by_cases c120:x7_1.length < 1466015503701
         ·rw [if_pos c120] at H
          have LMc120:=aM c120
          clear c120
          obtain ⟨y183,hy183⟩:∃ y_:List (S36),y_ = (x7_1 ++ [(⟨(⟨x146000_1,x146001_1⟩:S27),(⟨x146002_1,x146003_1⟩:S27),(⟨x146004_1,x146005_1⟩:S27)⟩:S36)]):=⟨_,rfl⟩
          replace H:(if x6_1.length < 140737488355328 then (spec_l06Middle.l2 k2 (x6_1 ++ [t160]) y183 x8_1 t160 0 a0_0 a0_1 x146000_1 x146001_1 x146002_1 x146003_1 x146004_1 x146005_1) else (none)) = some (r1,r2,r3):=by first|(rw [hy183];with_reducible exact H)|(have H2_:=(Option.bind_some _ _).symm.trans H;rw [hy183];with_reducible exact H2_)|(have H2_:=(Option.bind_some _ _).symm.trans H;with_reducible exact H2_)|with_reducible exact H|(rw [hy183];exact H)|exact H
          have Ny183:=aM hy183
          clear hy183
          by_cases c121:x6_1.length < 140737488355328
          ·rw [if_pos c121] at H
           have LMc121:=aM c121
           clear c121
           obtain ⟨y186,hy186⟩:∃ y_:List Int,y_ = (x6_1 ++ [t160]):=⟨_,rfl⟩
           replace H:(spec_l06Middle.l2 k2 y186 y183 x8_1 t160 0 a0_0 a0_1 x146000_1 x146001_1 x146002_1 x146003_1 x146004_1 x146005_1) = some (r1,r2,r3):=by first|(rw [hy186];with_reducible exact H)|(have H2_:=(Option.bind_some _ _).symm.trans H;rw [hy186];with_reducible exact H2_)|(have H2_:=(Option.bind_some _ _).symm.trans H;with_reducible exact H2_)|with_reducible exact H|(rw [hy186];exact H)|exact H
           have Ny186:=aM hy186
           clear hy186
           have H':=aM H
           clear H
           obtain ⟨Ao122,co122,eo122⟩:=Kd.R_slice HO_7.out
           subst eo122
           have hnb123:=NB145_144.out
           have hnc123:=NB144_145.out
           have hnb124:=NB145_146.out
           have hnc124:=NB146_145.out
           have hnb125:=NB145_156.out
           have hnc125:=NB156_145.out
           have⟨a0,a1,a2,a3,a4,a5,b0,b1,b2,b3,b4,b5⟩:=q6f BK145
           go_wp2_with (first|((with_reducible refine gate_builtin (b:=.append) (xs:=#[.tmp 82,.tmp 84]) rfl ?_);at_builtin;refine Kd.R_append k36 (w0:=w) w.heap.size rfl (.tmp 82) (.tmp 84) 43 36 (.agg #[(.string ⟨#[]⟩),(.string ⟨#[]⟩),(.string ⟨#[]⟩),(.string ⟨#[]⟩),(.string ⟨#[]⟩),(.string ⟨#[]⟩)]) 96 rfl Try.underlying43 info36 rfl (by decide) (by omega) (.slice Ao122 x7_1.length co122) x7_1 (⟨(⟨x146000_1,x146001_1⟩:S27),(⟨x146002_1,x146003_1⟩:S27),(⟨x146004_1,x146005_1⟩:S27)⟩:S36) [.string x146000_1,.string x146001_1,.string x146002_1,.string x146003_1,.string x146004_1,.string x146005_1] (fun k_=>k_ ≠ gb145) (fun _=>False) rfl rfl ?aP (fun _ hk=>hk.elim) ?aF ?aO ?aB ?aS ?aL ?_;(case aP=>exact k36_mkM _ _ _ (⟨(⟨x146000_1,x146001_1⟩:S27),(⟨x146002_1,x146003_1⟩:S27),(⟨x146004_1,x146005_1⟩:S27)⟩:S36));(case aB=>exact (by first|exact bb HB|exact bg HB GE144|exact bg HB GE145|exact bg HB GE146|exact bg HB GE156));(case aF=>exact (fun k_ hk=>Kd.freshB (g:=gb145) (o:=.cells #[.string x146000_1,.string x146001_1,.string x146002_1,.string x146003_1,.string x146004_1,.string x146005_1] 36 (0,0)) (bk BK145) k_ hk));(case aO=>exact (rk HO_7));(case aS=>exact (below_size (by first|exact bb HB|exact bg HB GE144|exact bg HB GE145|exact bg HB GE146|exact bg HB GE156)));(case aL=>have:=LMc120.out;omega);intro v184 w127 ho hb hg hat;rw [← Ny183.out] at ho;have n0_:=aM (Kd.R_over' (rk HO_6) (Kd.R_typed (rk HO_7)) (by decide) hg);have n1_:=aM (blk_grown (g:=gb144) (o:=.cells #[.string a0_0,.string a0_1] 27 (0,0)) (bk BK144) hg (Kd.R_ne HO_7.out BK144.out (by decide)));have n2_:=aM (blk_grown (g:=gb145) (o:=.cells #[.string x146000_1,.string x146001_1,.string x146002_1,.string x146003_1,.string x146004_1,.string x146005_1] 36 (0,0)) (bk BK145) hg (Kd.R_away HO_7.out (fun _ hk=>hk)));have n3_:=aM (blk_grown (g:=gb146) (o:=.cells #[.string x147000_2,.string x147001_2] 27 (0,0)) (bk BK146) hg (Kd.R_ne HO_7.out BK146.out (by decide)));have n4_:=aM (blk_grown (g:=gb156) (o:=.cells #[.string t153,.string t154] 27 (0,0)) (bk BK156) hg (Kd.R_ne HO_7.out BK156.out (by decide)));have n5_:=aM (hb);have n6_:=aM (ho);clear HO_6;clear BK144;clear BK145;clear BK146;clear BK156;clear HB;clear HO_7;have HO_6:=n0_;have BK144:=n1_;have BK145:=n2_;have BK146:=n3_;have BK156:=n4_;have HB:=n5_;have HO185:=n6_;clear n0_ n1_ n2_ n3_ n4_ n5_ n6_;clear ho hb hg hat)|((with_reducible refine gate_builtin (b:=.append) (xs:=#[.tmp 86,.tmp 88]) rfl ?_);at_builtin;refine Kd.R_append (Kd.int .u8) (w0:=w) w.heap.size rfl (.tmp 86) (.tmp 88) 42 5 (.int .u8 0) 1 rfl Try.underlying42 info5 rfl (by decide) (by omega) u6 x6_1 t160 [.int .u8 t160] (fun _=>True) (fun _=>False) rfl rfl ?aP (fun _ hk=>hk.elim) ?aF ?aO ?aB ?aS ?aL ?_;(case aP=>exact rfl);(case aB=>exact (by first|exact bb HB|exact bg HB GE144|exact bg HB GE145|exact bg HB GE146|exact bg HB GE156));(case aF=>exact (fun _ _=>trivial));(case aO=>exact (rk HO_6));(case aS=>exact (below_size (by first|exact bb HB|exact bg HB GE144|exact bg HB GE145|exact bg HB GE146|exact bg HB GE156)));(case aL=>have:=LMc121.out;omega);intro v187 w128 ho hb hg hat;rw [← Ny186.out] at ho;have n0_:=aM (blk_grown (g:=gb144) (o:=.cells #[.string a0_0,.string a0_1] 27 (0,0)) (bk BK144) hg (Kd.R_ne HO_6.out BK144.out (by decide)));have n1_:=aM (blk_grown (g:=gb145) (o:=.cells #[.string x146000_1,.string x146001_1,.string x146002_1,.string x146003_1,.string x146004_1,.string x146005_1] 36 (0,0)) (bk BK145) hg (Kd.R_ne HO_6.out BK145.out (by decide)));have n2_:=aM (blk_grown (g:=gb146) (o:=.cells #[.string x147000_2,.string x147001_2] 27 (0,0)) (bk BK146) hg (Kd.R_ne HO_6.out BK146.out (by decide)));have n3_:=aM (blk_grown (g:=gb156) (o:=.cells #[.string t153,.string t154] 27 (0,0)) (bk BK156) hg (Kd.R_ne HO_6.out BK156.out (by decide)));have n4_:=aM (Kd.R_over' (rk HO185) (Kd.R_typed (rk HO_6)) (by decide) hg);have n5_:=aM (hb);have n6_:=aM (ho);clear BK144;clear BK145;clear BK146;clear BK156;clear HO185;clear HB;clear HO_6;have BK144:=n0_;have BK145:=n1_;have BK146:=n2_;have BK156:=n3_;have HO185:=n4_;have HB:=n5_;have HO188:=n6_;clear n0_ n1_ n2_ n3_ n4_ n5_ n6_;clear ho hb hg hat))
           go_loopg [14] k2 (fun kq v14 w'=>∃ (x14_3:Int) (x146000_3:ByteArray) (x146001_3:ByteArray) (x146002_3:ByteArray) (x146003_3:ByteArray) (x146004_3:ByteArray) (x146005_3:ByteArray),v14 = .int .i64 x14_3 ∧ Aside0 (spec_l06Middle.l2 kq y186 y183 x8_1 t160 x14_3 a0_0 a0_1 x146000_3 x146001_3 x146002_3 x146003_3 x146004_3 x146005_3 = some (r1,r2,r3)) ∧ Aside0 (kq ≤ k2) ∧ Aside0 (Kd.R (Kd.int .u8) 5 w' w.heap.size (fun _=>True) v187 y186) ∧ Aside0 (Kd.R k36 36 w' w.heap.size (fun k_=>k_ ≠ gb145) v184 y183) ∧ Aside0 (w'.heap[gb144]? = some (.cells #[.string a0_0,.string a0_1] 27 (0,0))) ∧ Aside0 (w'.heap[gb145]? = some (.cells #[.string x146000_3,.string x146001_3,.string x146002_3,.string x146003_3,.string x146004_3,.string x146005_3] 36 (0,0))) ∧ Aside0 (w'.heap[gb146]? = some (.cells #[.string x147000_2,.string x147001_2] 27 (0,0))) ∧ Aside0 (w'.heap[gb156]? = some (.cells #[.string t153,.string t154] 27 (0,0))) ∧ Aside0 (Below w.heap.size w w'))
           case atStart=>exact ⟨(0),(x146000_1),(x146001_1),(x146002_1),(x146003_1),(x146004_1),(x146005_1),(by first|rfl|(simp;done)|(simp [*];done)),H',⟨Nat.le_refl _⟩,⟨rk HO188⟩,⟨rk HO185⟩,⟨bk BK144⟩,⟨bk BK145⟩,⟨bk BK146⟩,⟨bk BK156⟩,⟨by first|exact bb HB|exact bg HB GE144|exact bg HB GE145|exact bg HB GE146|exact bg HB GE156⟩⟩
           case round =>
            clear H'
            try clear c1
            try clear p1
            try clear q1
            try clear hx1
            try clear hcv1
            try clear c2
            try clear p2
            try clear c3
            try clear c4
            try clear c5
            try clear c6
            try clear p6
            try clear hcv6
            try clear c7
            try clear c8
            try clear hcv8
            try clear c9
            try clear c10
            try clear q10
            try clear c11
            try clear q11
            try clear hcv11
            try clear c12
            try clear p17
            try clear q17
            try clear hx17
            try clear c18
            try clear c19
            try clear c29
            try clear c29b0
            try clear c30
            try clear c31
            try clear c49
            try clear c50
            try clear c50b0
            try clear c50b1
            try clear c50b2
            try clear c52
            try clear c53
            try clear c57
            try clear c58
            try clear c59
            try clear p64
            try clear hcv64
            try clear c68
            try clear c69
            try clear c69b0
            try clear c69b1
            try clear c69b2
            try clear c71
            try clear c72
            try clear c76
            try clear c77
            try clear c78
            try clear hcv83
            try clear c87
            try clear c88
            try clear c92
            try clear c93
            try clear c94
            try clear c98
            try clear c98b0
            try clear c99
            try clear c99b0
            try clear c100
            try clear c100b0
            try clear c101
            try clear c101b0
            try clear c102
            try clear c102b0
            try clear c102b1
            try clear c103
            try clear c103b0
            try clear c104
            try clear c104b0
            try clear q109
            try clear c111
            try clear q111
            try clear hcv112
            try clear hcv113
            try clear c120
            try clear c121
            try clear c123
            try clear c124
            try clear c125
            try clear hcz126_0
            try clear hcz126_1
            try clear hcz126_2
            try clear hcz126_3
            try clear hcz126_4
            try clear hcz126_5
            try clear hcz54_0
            try clear hcz54_1
            try clear hcz54_2
            try clear hcz54_3
            try clear hcz54_4
            try clear hcz54_5
            try clear hcz60_0
            try clear hcz60_1
            try clear hcz61_0
            try clear hcz61_1
            try clear hcz61_2
            try clear hcz61_3
            try clear hcz61_4
            try clear hcz61_5
            try clear hcz73_0
            try clear hcz73_1
            try clear hcz73_2
            try clear hcz73_3
            try clear hcz73_4
            try clear hcz73_5
            try clear hcz79_0
            try clear hcz79_1
            try clear hcz80_0
            try clear hcz80_1
            try clear hcz80_2
            try clear hcz80_3
            try clear hcz80_4
            try clear hcz80_5
            try clear hcz89_0
            try clear hcz89_1
            try clear hcz89_2
            try clear hcz89_3
            try clear hcz89_4
            try clear hcz89_5
            try clear hcz95_0
            try clear hcz95_1
            try clear hcz96_0
            try clear hcz96_1
            try clear hcz96_2
            try clear hcz96_3
            try clear hcz96_4
            try clear hcz96_5
            try clear hfz126_0
            try clear hfz126_1
            try clear hfz126_2
            try clear hfz126_3
            try clear hfz126_4
            try clear hfz126_5
            try clear hfz54_0
            try clear hfz54_1
            try clear hfz54_2
            try clear hfz54_3
            try clear hfz54_4
            try clear hfz54_5
            try clear hfz60_0
            try clear hfz60_1
            try clear hfz61_0
            try clear hfz61_1
            try clear hfz61_2
            try clear hfz61_3
            try clear hfz61_4
            try clear hfz61_5
            try clear hfz73_0
            try clear hfz73_1
            try clear hfz73_2
            try clear hfz73_3
            try clear hfz73_4
            try clear hfz73_5
            try clear hfz79_0
            try clear hfz79_1
            try clear hfz80_0
            try clear hfz80_1
            try clear hfz80_2
            try clear hfz80_3
            try clear hfz80_4
            try clear hfz80_5
            try clear hfz89_0
            try clear hfz89_1
            try clear hfz89_2
            try clear hfz89_3
            try clear hfz89_4
            try clear hfz89_5
            try clear hfz95_0
            try clear hfz95_1
            try clear hfz96_0
            try clear hfz96_1
            try clear hfz96_2
            try clear hfz96_3
            try clear hfz96_4
            try clear hfz96_5
            try clear hx171_0
            try clear hx171_1
            try clear hx171_2
            try clear hx171_3
            try clear hx171_4
            try clear hx171_5
            try clear p171
            try clear q0111
            try clear q109
            try clear q111
            try clear q171
            obtain ⟨x14_3,x146000_3,x146001_3,x146002_3,x146003_3,x146004_3,x146005_3,rfl,HA,HK3,HO_6,HO_7,BK144,BK145,BK146,BK156,HB⟩:=hrel
            cases gk with
            | zero=>exact absurd HA.out (by simp [spec_l06Middle.l2])
            | succ k3 =>
             have H:=HA.out
             clear HA
             simp only [spec_l06Middle.l2] at H
             by_cases c129:x14_3 < 3
             ·rw [if_pos c129] at H
              have c129b0:decide (x14_3 < 3) = true:=decide_eq_true c129
              clear c129
              by_cases c130:x14_3 = 0
              ·subst c130
               have H1:((spec_l01At.f x146000_3 x146001_3 0).bind fun t189=>(if t189 = t160 then ((spec_l01Shift.f x146000_3 x146001_3).bind fun bt190=>(spec_l06Middle.l2 k3 y186 y183 x8_1 t160 (0 + 1) a0_0 a0_1 bt190.1 bt190.2 x146002_3 x146003_3 x146004_3 x146005_3)) else (if t189 = 42 then ((spec_l01Shift.f x146000_3 x146001_3).bind fun bt192=>(spec_l06Middle.l2 k3 y186 y183 x8_1 t160 (0 + 1) a0_0 a0_1 bt192.1 bt192.2 x146002_3 x146003_3 x146004_3 x146005_3)) else (spec_l06Middle.l2 k3 y186 y183 x8_1 t160 (0 + 1) a0_0 a0_1 a0_0 a0_1 x146002_3 x146003_3 x146004_3 x146005_3)))) = some (r1,r2,r3):=by rw [if_pos rfl] at H;exact H
               clear H
               have H:=H1
               clear H1
               replace H:=Option.bind_eq_some_iff.mp H
               obtain ⟨t189,A1310,H⟩:=H
               replace H:(if t189 = t160 then ((spec_l01Shift.f x146000_3 x146001_3).bind fun bt190=>(spec_l06Middle.l2 k3 y186 y183 x8_1 t160 (0 + 1) a0_0 a0_1 bt190.1 bt190.2 x146002_3 x146003_3 x146004_3 x146005_3)) else (if t189 = 42 then ((spec_l01Shift.f x146000_3 x146001_3).bind fun bt192=>(spec_l06Middle.l2 k3 y186 y183 x8_1 t160 (0 + 1) a0_0 a0_1 bt192.1 bt192.2 x146002_3 x146003_3 x146004_3 x146005_3)) else (spec_l06Middle.l2 k3 y186 y183 x8_1 t160 (0 + 1) a0_0 a0_1 a0_0 a0_1 x146002_3 x146003_3 x146004_3 x146005_3))) = some (r1,r2,r3):=H;have A131:=aM A1310
               clear A1310
               by_cases c132:t189 = t160
               ·rw [if_pos c132] at H
                have c132b0:(t189 == t160) = true:=beq_iff_eq.mpr c132
                have c132b1:(t189 != t160) = false:=bne_eq_false_iff_eq.mpr c132
                clear c132
                replace H:=Option.bind_eq_some_iff.mp H
                obtain ⟨⟨t190,t191⟩,A1330,H⟩:=H
                replace H:(spec_l06Middle.l2 k3 y186 y183 x8_1 t160 (0 + 1) a0_0 a0_1 t190 t191 x146002_3 x146003_3 x146004_3 x146005_3) = some (r1,r2,r3):=H;have A133:=aM A1330
                clear A1330
                have H':=aM H
                clear H
                have hnb134:=NB145_144.out
                have hnc134:=NB144_145.out
                have hnb135:=NB145_146.out
                have hnc135:=NB146_145.out
                have hnb136:=NB145_156.out
                have hnc136:=NB156_145.out
                have⟨a0,a1,a2,a3,a4,a5,b0,b1,b2,b3,b4,b5⟩:=q6f BK145
                go_wp2_with (first|((with_reducible refine gate_callee (f:=20) rfl ?_);refine goesL_ (some 97) rfl rfl Try.func20 (by kernel_rfl) rfl #[.agg #[.string x146000_3,.string x146001_3],.int .i64 0] rfl (by (try simp only [sM,sC,sN]);first|done|rfl|(simp only [List.length_drop,List.length_take];rfl)) ?_;(with_reducible refine (spec_l01At.calls x146000_3 x146001_3 0 t189 _ A131.out).mono ?_);rintro e w138 ⟨rfl,hb⟩;refine ⟨_,rfl,?_⟩;replace HO_6:=ko HO_6 hb;replace HO_7:=ko HO_7 hb;replace BK144:=kb BK144 hb;replace BK145:=kb BK145 hb;replace BK146:=kb BK146 hb;replace BK156:=kb BK156 hb;replace HB:=aM (below_step (by first|exact bb HB|exact bg HB GE144|exact bg HB GE145|exact bg HB GE146|exact bg HB GE156) hb);(try clear hb);have⟨a0,a1,a2,a3,a4,a5,b0,b1,b2,b3,b4,b5⟩:=q6f BK145)|((with_reducible refine gate_callee (f:=21) rfl ?_);refine goesL_ (some 109) rfl rfl Try.func21 (by kernel_rfl) rfl #[.agg #[.string x146000_3,.string x146001_3]] rfl (by (try simp only [sM,sC,sN]);first|done|rfl|(simp only [List.length_drop,List.length_take];rfl)) ?_;(with_reducible refine (spec_l01Shift.calls x146000_3 x146001_3 t190 t191 _ A133.out).mono ?_);rintro e w140 ⟨rfl,hb⟩;refine ⟨_,rfl,?_⟩;replace HO_6:=ko HO_6 hb;replace HO_7:=ko HO_7 hb;replace BK144:=kb BK144 hb;replace BK145:=kb BK145 hb;replace BK146:=kb BK146 hb;replace BK156:=kb BK156 hb;replace HB:=aM (below_step (by first|exact bb HB|exact bg HB GE144|exact bg HB GE145|exact bg HB GE146|exact bg HB GE156) hb);(try clear hb);have⟨a0,a1,a2,a3,a4,a5,b0,b1,b2,b3,b4,b5⟩:=q6f BK145))
                go_roundg k3
                case measure=>have:=HK1.out;have:=HK2.out;have:=HK3.out;omega
                case rel=>exact ⟨(0 + 1),(t190),(t191),(x146002_3),(x146003_3),(x146004_3),(x146005_3),(by first|rfl|(simp;done)|(simp [*];done)),H',⟨by have:=HK1.out;have:=HK2.out;have:=HK3.out;omega⟩,⟨by (with_reducible repeat (first|apply rA|apply rN|apply rD));exact Kd.R_mono (Kd.R_far (p:=⟨gb145,1,none⟩) (Kd.R_far (p:=⟨gb145,0,none⟩) (Kd.R_types HO_6.out BK145.out (by decide)) (fun _ hk=>hk.2) (.string t190)) (fun _ hk=>hk.2) (.string t191)) (fun _ hk=>trivial)⟩,⟨by (with_reducible repeat (first|apply rA|apply rN|apply rD));exact Kd.R_mono (Kd.R_far (p:=⟨gb145,1,none⟩) (Kd.R_far (p:=⟨gb145,0,none⟩) (Kd.R_mono HO_7.out (fun k_ hk=>(⟨hk,hk⟩:_ ∧ k_ ≠ gb145))) (fun _ hk=>hk.2) (.string t190)) (fun _ hk=>hk.2) (.string t191)) (fun _ hk=>hk.1)⟩,⟨bf BK144 NB144_145⟩,⟨by (with_reducible repeat (first|apply yN|apply yD|apply yA));refine blk_put (cs:=#[.string t190,.string x146001_3,.string x146002_3,.string x146003_3,.string x146004_3,.string x146005_3]) ?_ 1 _ rfl;(with_reducible repeat (first|apply yN|apply yD|apply yA));refine blk_put (cs:=#[.string x146000_3,.string x146001_3,.string x146002_3,.string x146003_3,.string x146004_3,.string x146005_3]) ?_ 0 _ rfl;(with_reducible repeat (first|apply yN|apply yD|apply yA));exact BK145.out⟩,⟨bf BK146 NB146_145⟩,⟨bf BK156 NB156_145⟩,⟨by first|exact bb HB|exact bg HB GE144|exact bg HB GE145|exact bg HB GE146|exact bg HB GE156⟩⟩
               ·rw [if_neg c132] at H
                have c132b0:(t189 == t160) = false:=beq_eq_false_iff_ne.mpr c132
                have c132b1:(t189 != t160) = true:=bne_iff_ne.mpr c132
                by_cases c142:t189 = 42
                ·rw [if_pos c142] at H
                 have c142b0:(t189 == 42) = true:=beq_iff_eq.mpr c142
                 have c142b1:(t189 != 42) = false:=bne_eq_false_iff_eq.mpr c142
                 clear c142
                 replace H:=Option.bind_eq_some_iff.mp H
                 obtain ⟨⟨t192,t193⟩,A1430,H⟩:=H
                 replace H:(spec_l06Middle.l2 k3 y186 y183 x8_1 t160 (0 + 1) a0_0 a0_1 t192 t193 x146002_3 x146003_3 x146004_3 x146005_3) = some (r1,r2,r3):=H;have A143:=aM A1430
                 clear A1430
                 have H':=aM H
                 clear H
                 have hnb144:=NB145_144.out
                 have hnc144:=NB144_145.out
                 have hnb145:=NB145_146.out
                 have hnc145:=NB146_145.out
                 have hnb146:=NB145_156.out
                 have hnc146:=NB156_145.out
                 have⟨a0,a1,a2,a3,a4,a5,b0,b1,b2,b3,b4,b5⟩:=q6f BK145
                 go_wp2_with (first|((with_reducible refine gate_callee (f:=20) rfl ?_);refine goesL_ (some 97) rfl rfl Try.func20 (by kernel_rfl) rfl #[.agg #[.string x146000_3,.string x146001_3],.int .i64 0] rfl (by (try simp only [sM,sC,sN]);first|done|rfl|(simp only [List.length_drop,List.length_take];rfl)) ?_;(with_reducible refine (spec_l01At.calls x146000_3 x146001_3 0 t189 _ A131.out).mono ?_);rintro e w148 ⟨rfl,hb⟩;refine ⟨_,rfl,?_⟩;replace HO_6:=ko HO_6 hb;replace HO_7:=ko HO_7 hb;replace BK144:=kb BK144 hb;replace BK145:=kb BK145 hb;replace BK146:=kb BK146 hb;replace BK156:=kb BK156 hb;replace HB:=aM (below_step (by first|exact bb HB|exact bg HB GE144|exact bg HB GE145|exact bg HB GE146|exact bg HB GE156) hb);(try clear hb);have⟨a0,a1,a2,a3,a4,a5,b0,b1,b2,b3,b4,b5⟩:=q6f BK145)|((with_reducible refine gate_callee (f:=21) rfl ?_);refine goesL_ (some 109) rfl rfl Try.func21 (by kernel_rfl) rfl #[.agg #[.string x146000_3,.string x146001_3]] rfl (by (try simp only [sM,sC,sN]);first|done|rfl|(simp only [List.length_drop,List.length_take];rfl)) ?_;(with_reducible refine (spec_l01Shift.calls x146000_3 x146001_3 t192 t193 _ A143.out).mono ?_);rintro e w150 ⟨rfl,hb⟩;refine ⟨_,rfl,?_⟩;replace HO_6:=ko HO_6 hb;replace HO_7:=ko HO_7 hb;replace BK144:=kb BK144 hb;replace BK145:=kb BK145 hb;replace BK146:=kb BK146 hb;replace BK156:=kb BK156 hb;replace HB:=aM (below_step (by first|exact bb HB|exact bg HB GE144|exact bg HB GE145|exact bg HB GE146|exact bg HB GE156) hb);(try clear hb);have⟨a0,a1,a2,a3,a4,a5,b0,b1,b2,b3,b4,b5⟩:=q6f BK145))
                 go_roundg k3
                 case measure=>have:=HK1.out;have:=HK2.out;have:=HK3.out;omega
                 case rel=>exact ⟨(0 + 1),(t192),(t193),(x146002_3),(x146003_3),(x146004_3),(x146005_3),(by first|rfl|(simp;done)|(simp [*];done)),H',⟨by have:=HK1.out;have:=HK2.out;have:=HK3.out;omega⟩,⟨by (with_reducible repeat (first|apply rA|apply rN|apply rD));exact Kd.R_mono (Kd.R_far (p:=⟨gb145,1,none⟩) (Kd.R_far (p:=⟨gb145,0,none⟩) (Kd.R_types HO_6.out BK145.out (by decide)) (fun _ hk=>hk.2) (.string t192)) (fun _ hk=>hk.2) (.string t193)) (fun _ hk=>trivial)⟩,⟨by (with_reducible repeat (first|apply rA|apply rN|apply rD));exact Kd.R_mono (Kd.R_far (p:=⟨gb145,1,none⟩) (Kd.R_far (p:=⟨gb145,0,none⟩) (Kd.R_mono HO_7.out (fun k_ hk=>(⟨hk,hk⟩:_ ∧ k_ ≠ gb145))) (fun _ hk=>hk.2) (.string t192)) (fun _ hk=>hk.2) (.string t193)) (fun _ hk=>hk.1)⟩,⟨bf BK144 NB144_145⟩,⟨by (with_reducible repeat (first|apply yN|apply yD|apply yA));refine blk_put (cs:=#[.string t192,.string x146001_3,.string x146002_3,.string x146003_3,.string x146004_3,.string x146005_3]) ?_ 1 _ rfl;(with_reducible repeat (first|apply yN|apply yD|apply yA));refine blk_put (cs:=#[.string x146000_3,.string x146001_3,.string x146002_3,.string x146003_3,.string x146004_3,.string x146005_3]) ?_ 0 _ rfl;(with_reducible repeat (first|apply yN|apply yD|apply yA));exact BK145.out⟩,⟨bf BK146 NB146_145⟩,⟨bf BK156 NB156_145⟩,⟨by first|exact bb HB|exact bg HB GE144|exact bg HB GE145|exact bg HB GE146|exact bg HB GE156⟩⟩
                ·rw [if_neg c142] at H
                 have c142b0:(t189 == 42) = false:=beq_eq_false_iff_ne.mpr c142
                 have c142b1:(t189 != 42) = true:=bne_iff_ne.mpr c142
                 have H':=aM H
                 clear H
                 have hnb152:=NB145_144.out
                 have hnc152:=NB144_145.out
                 have hnb153:=NB145_146.out
                 have hnc153:=NB146_145.out
                 have hnb154:=NB145_156.out
                 have hnc154:=NB156_145.out
                 have⟨a0,a1,a2,a3,a4,a5,b0,b1,b2,b3,b4,b5⟩:=q6f BK145
                 go_wp2_with (first|((with_reducible refine gate_callee (f:=20) rfl ?_);refine goesL_ (some 97) rfl rfl Try.func20 (by kernel_rfl) rfl #[.agg #[.string x146000_3,.string x146001_3],.int .i64 0] rfl (by (try simp only [sM,sC,sN]);first|done|rfl|(simp only [List.length_drop,List.length_take];rfl)) ?_;(with_reducible refine (spec_l01At.calls x146000_3 x146001_3 0 t189 _ A131.out).mono ?_);rintro e w156 ⟨rfl,hb⟩;refine ⟨_,rfl,?_⟩;replace HO_6:=ko HO_6 hb;replace HO_7:=ko HO_7 hb;replace BK144:=kb BK144 hb;replace BK145:=kb BK145 hb;replace BK146:=kb BK146 hb;replace BK156:=kb BK156 hb;replace HB:=aM (below_step (by first|exact bb HB|exact bg HB GE144|exact bg HB GE145|exact bg HB GE146|exact bg HB GE156) hb);(try clear hb);have hnb157:=NB144_146.out;have hnc157:=NB146_144.out;have hnb158:=NB144_156.out;have hnc158:=NB156_144.out;have⟨a0,a1,b0,b1⟩:=q2f BK144;have⟨a0,a1,a2,a3,a4,a5,b0,b1,b2,b3,b4,b5⟩:=q6f BK145))
                 go_roundg k3
                 case measure=>have:=HK1.out;have:=HK2.out;have:=HK3.out;omega
                 case rel=>exact ⟨(0 + 1),(a0_0),(a0_1),(x146002_3),(x146003_3),(x146004_3),(x146005_3),(by first|rfl|(simp;done)|(simp [*];done)),H',⟨by have:=HK1.out;have:=HK2.out;have:=HK3.out;omega⟩,⟨by (with_reducible repeat (first|apply rA|apply rN|apply rD));exact Kd.R_mono (Kd.R_far (p:=⟨gb145,1,none⟩) (Kd.R_far (p:=⟨gb145,0,none⟩) (Kd.R_types HO_6.out BK145.out (by decide)) (fun _ hk=>hk.2) (.string a0_0)) (fun _ hk=>hk.2) (.string a0_1)) (fun _ hk=>trivial)⟩,⟨by (with_reducible repeat (first|apply rA|apply rN|apply rD));exact Kd.R_mono (Kd.R_far (p:=⟨gb145,1,none⟩) (Kd.R_far (p:=⟨gb145,0,none⟩) (Kd.R_mono HO_7.out (fun k_ hk=>(⟨hk,hk⟩:_ ∧ k_ ≠ gb145))) (fun _ hk=>hk.2) (.string a0_0)) (fun _ hk=>hk.2) (.string a0_1)) (fun _ hk=>hk.1)⟩,⟨bf BK144 NB144_145⟩,⟨by (with_reducible repeat (first|apply yN|apply yD|apply yA));refine blk_put (cs:=#[.string a0_0,.string x146001_3,.string x146002_3,.string x146003_3,.string x146004_3,.string x146005_3]) ?_ 1 _ rfl;(with_reducible repeat (first|apply yN|apply yD|apply yA));refine blk_put (cs:=#[.string x146000_3,.string x146001_3,.string x146002_3,.string x146003_3,.string x146004_3,.string x146005_3]) ?_ 0 _ rfl;(with_reducible repeat (first|apply yN|apply yD|apply yA));exact BK145.out⟩,⟨bf BK146 NB146_145⟩,⟨bf BK156 NB156_145⟩,⟨by first|exact bb HB|exact bg HB GE144|exact bg HB GE145|exact bg HB GE146|exact bg HB GE156⟩⟩
              ·rw [if_neg c130] at H
               by_cases c161:x14_3 = 1
               ·subst c161
                have H1:((spec_l01At.f x146002_3 x146003_3 0).bind fun t194=>(if t194 = t160 then ((spec_l01Shift.f x146002_3 x146003_3).bind fun bt195=>(spec_l06Middle.l2 k3 y186 y183 x8_1 t160 (1 + 1) a0_0 a0_1 x146000_3 x146001_3 bt195.1 bt195.2 x146004_3 x146005_3)) else (if t194 = 42 then ((spec_l01Shift.f x146002_3 x146003_3).bind fun bt197=>(spec_l06Middle.l2 k3 y186 y183 x8_1 t160 (1 + 1) a0_0 a0_1 x146000_3 x146001_3 bt197.1 bt197.2 x146004_3 x146005_3)) else (spec_l06Middle.l2 k3 y186 y183 x8_1 t160 (1 + 1) a0_0 a0_1 x146000_3 x146001_3 a0_0 a0_1 x146004_3 x146005_3)))) = some (r1,r2,r3):=by rw [if_pos rfl] at H;exact H
                clear H
                have H:=H1
                clear H1
                replace H:=Option.bind_eq_some_iff.mp H
                obtain ⟨t194,A1620,H⟩:=H
                replace H:(if t194 = t160 then ((spec_l01Shift.f x146002_3 x146003_3).bind fun bt195=>(spec_l06Middle.l2 k3 y186 y183 x8_1 t160 (1 + 1) a0_0 a0_1 x146000_3 x146001_3 bt195.1 bt195.2 x146004_3 x146005_3)) else (if t194 = 42 then ((spec_l01Shift.f x146002_3 x146003_3).bind fun bt197=>(spec_l06Middle.l2 k3 y186 y183 x8_1 t160 (1 + 1) a0_0 a0_1 x146000_3 x146001_3 bt197.1 bt197.2 x146004_3 x146005_3)) else (spec_l06Middle.l2 k3 y186 y183 x8_1 t160 (1 + 1) a0_0 a0_1 x146000_3 x146001_3 a0_0 a0_1 x146004_3 x146005_3))) = some (r1,r2,r3):=H;have A162:=aM A1620
                clear A1620
                by_cases c163:t194 = t160
                ·rw [if_pos c163] at H
                 have c163b0:(t194 == t160) = true:=beq_iff_eq.mpr c163
                 have c163b1:(t194 != t160) = false:=bne_eq_false_iff_eq.mpr c163
                 clear c163
                 replace H:=Option.bind_eq_some_iff.mp H
                 obtain ⟨⟨t195,t196⟩,A1640,H⟩:=H
                 replace H:(spec_l06Middle.l2 k3 y186 y183 x8_1 t160 (1 + 1) a0_0 a0_1 x146000_3 x146001_3 t195 t196 x146004_3 x146005_3) = some (r1,r2,r3):=H;have A164:=aM A1640
                 clear A1640
                 have H':=aM H
                 clear H
                 have hnb165:=NB145_144.out
                 have hnc165:=NB144_145.out
                 have hnb166:=NB145_146.out
                 have hnc166:=NB146_145.out
                 have hnb167:=NB145_156.out
                 have hnc167:=NB156_145.out
                 have⟨a0,a1,a2,a3,a4,a5,b0,b1,b2,b3,b4,b5⟩:=q6f BK145
                 go_wp2_with (first|((with_reducible refine gate_callee (f:=20) rfl ?_);refine goesL_ (some 97) rfl rfl Try.func20 (by kernel_rfl) rfl #[.agg #[.string x146002_3,.string x146003_3],.int .i64 0] rfl (by (try simp only [sM,sC,sN]);first|done|rfl|(simp only [List.length_drop,List.length_take];rfl)) ?_;(with_reducible refine (spec_l01At.calls x146002_3 x146003_3 0 t194 _ A162.out).mono ?_);rintro e w169 ⟨rfl,hb⟩;refine ⟨_,rfl,?_⟩;replace HO_6:=ko HO_6 hb;replace HO_7:=ko HO_7 hb;replace BK144:=kb BK144 hb;replace BK145:=kb BK145 hb;replace BK146:=kb BK146 hb;replace BK156:=kb BK156 hb;replace HB:=aM (below_step (by first|exact bb HB|exact bg HB GE144|exact bg HB GE145|exact bg HB GE146|exact bg HB GE156) hb);(try clear hb);have⟨a0,a1,a2,a3,a4,a5,b0,b1,b2,b3,b4,b5⟩:=q6f BK145)|((with_reducible refine gate_callee (f:=21) rfl ?_);refine goesL_ (some 109) rfl rfl Try.func21 (by kernel_rfl) rfl #[.agg #[.string x146002_3,.string x146003_3]] rfl (by (try simp only [sM,sC,sN]);first|done|rfl|(simp only [List.length_drop,List.length_take];rfl)) ?_;(with_reducible refine (spec_l01Shift.calls x146002_3 x146003_3 t195 t196 _ A164.out).mono ?_);rintro e w171 ⟨rfl,hb⟩;refine ⟨_,rfl,?_⟩;replace HO_6:=ko HO_6 hb;replace HO_7:=ko HO_7 hb;replace BK144:=kb BK144 hb;replace BK145:=kb BK145 hb;replace BK146:=kb BK146 hb;replace BK156:=kb BK156 hb;replace HB:=aM (below_step (by first|exact bb HB|exact bg HB GE144|exact bg HB GE145|exact bg HB GE146|exact bg HB GE156) hb);(try clear hb);have⟨a0,a1,a2,a3,a4,a5,b0,b1,b2,b3,b4,b5⟩:=q6f BK145))
                 go_roundg k3
                 case measure=>have:=HK1.out;have:=HK2.out;have:=HK3.out;omega
                 case rel=>exact ⟨(1 + 1),(x146000_3),(x146001_3),(t195),(t196),(x146004_3),(x146005_3),(by first|rfl|(simp;done)|(simp [*];done)),H',⟨by have:=HK1.out;have:=HK2.out;have:=HK3.out;omega⟩,⟨by (with_reducible repeat (first|apply rA|apply rN|apply rD));exact Kd.R_mono (Kd.R_far (p:=⟨gb145,3,none⟩) (Kd.R_far (p:=⟨gb145,2,none⟩) (Kd.R_types HO_6.out BK145.out (by decide)) (fun _ hk=>hk.2) (.string t195)) (fun _ hk=>hk.2) (.string t196)) (fun _ hk=>trivial)⟩,⟨by (with_reducible repeat (first|apply rA|apply rN|apply rD));exact Kd.R_mono (Kd.R_far (p:=⟨gb145,3,none⟩) (Kd.R_far (p:=⟨gb145,2,none⟩) (Kd.R_mono HO_7.out (fun k_ hk=>(⟨hk,hk⟩:_ ∧ k_ ≠ gb145))) (fun _ hk=>hk.2) (.string t195)) (fun _ hk=>hk.2) (.string t196)) (fun _ hk=>hk.1)⟩,⟨bf BK144 NB144_145⟩,⟨by (with_reducible repeat (first|apply yN|apply yD|apply yA));refine blk_put (cs:=#[.string x146000_3,.string x146001_3,.string t195,.string x146003_3,.string x146004_3,.string x146005_3]) ?_ 3 _ rfl;(with_reducible repeat (first|apply yN|apply yD|apply yA));refine blk_put (cs:=#[.string x146000_3,.string x146001_3,.string x146002_3,.string x146003_3,.string x146004_3,.string x146005_3]) ?_ 2 _ rfl;(with_reducible repeat (first|apply yN|apply yD|apply yA));exact BK145.out⟩,⟨bf BK146 NB146_145⟩,⟨bf BK156 NB156_145⟩,⟨by first|exact bb HB|exact bg HB GE144|exact bg HB GE145|exact bg HB GE146|exact bg HB GE156⟩⟩
                ·rw [if_neg c163] at H
                 have c163b0:(t194 == t160) = false:=beq_eq_false_iff_ne.mpr c163
                 have c163b1:(t194 != t160) = true:=bne_iff_ne.mpr c163
                 by_cases c173:t194 = 42
                 ·rw [if_pos c173] at H
                  have c173b0:(t194 == 42) = true:=beq_iff_eq.mpr c173
                  have c173b1:(t194 != 42) = false:=bne_eq_false_iff_eq.mpr c173
                  clear c173
                  replace H:=Option.bind_eq_some_iff.mp H
                  obtain ⟨⟨t197,t198⟩,A1740,H⟩:=H
                  replace H:(spec_l06Middle.l2 k3 y186 y183 x8_1 t160 (1 + 1) a0_0 a0_1 x146000_3 x146001_3 t197 t198 x146004_3 x146005_3) = some (r1,r2,r3):=H;have A174:=aM A1740
                  clear A1740
                  have H':=aM H
                  clear H
                  have hnb175:=NB145_144.out
                  have hnc175:=NB144_145.out
                  have hnb176:=NB145_146.out
                  have hnc176:=NB146_145.out
                  have hnb177:=NB145_156.out
                  have hnc177:=NB156_145.out
                  have⟨a0,a1,a2,a3,a4,a5,b0,b1,b2,b3,b4,b5⟩:=q6f BK145
                  go_wp2_with (first|((with_reducible refine gate_callee (f:=20) rfl ?_);refine goesL_ (some 97) rfl rfl Try.func20 (by kernel_rfl) rfl #[.agg #[.string x146002_3,.string x146003_3],.int .i64 0] rfl (by (try simp only [sM,sC,sN]);first|done|rfl|(simp only [List.length_drop,List.length_take];rfl)) ?_;(with_reducible refine (spec_l01At.calls x146002_3 x146003_3 0 t194 _ A162.out).mono ?_);rintro e w179 ⟨rfl,hb⟩;refine ⟨_,rfl,?_⟩;replace HO_6:=ko HO_6 hb;replace HO_7:=ko HO_7 hb;replace BK144:=kb BK144 hb;replace BK145:=kb BK145 hb;replace BK146:=kb BK146 hb;replace BK156:=kb BK156 hb;replace HB:=aM (below_step (by first|exact bb HB|exact bg HB GE144|exact bg HB GE145|exact bg HB GE146|exact bg HB GE156) hb);(try clear hb);have⟨a0,a1,a2,a3,a4,a5,b0,b1,b2,b3,b4,b5⟩:=q6f BK145)|((with_reducible refine gate_callee (f:=21) rfl ?_);refine goesL_ (some 109) rfl rfl Try.func21 (by kernel_rfl) rfl #[.agg #[.string x146002_3,.string x146003_3]] rfl (by (try simp only [sM,sC,sN]);first|done|rfl|(simp only [List.length_drop,List.length_take];rfl)) ?_;(with_reducible refine (spec_l01Shift.calls x146002_3 x146003_3 t197 t198 _ A174.out).mono ?_);rintro e w181 ⟨rfl,hb⟩;refine ⟨_,rfl,?_⟩;replace HO_6:=ko HO_6 hb;replace HO_7:=ko HO_7 hb;replace BK144:=kb BK144 hb;replace BK145:=kb BK145 hb;replace BK146:=kb BK146 hb;replace BK156:=kb BK156 hb;replace HB:=aM (below_step (by first|exact bb HB|exact bg HB GE144|exact bg HB GE145|exact bg HB GE146|exact bg HB GE156) hb);(try clear hb);have⟨a0,a1,a2,a3,a4,a5,b0,b1,b2,b3,b4,b5⟩:=q6f BK145))
                  go_roundg k3
                  case measure=>have:=HK1.out;have:=HK2.out;have:=HK3.out;omega
                  case rel=>exact ⟨(1 + 1),(x146000_3),(x146001_3),(t197),(t198),(x146004_3),(x146005_3),(by first|rfl|(simp;done)|(simp [*];done)),H',⟨by have:=HK1.out;have:=HK2.out;have:=HK3.out;omega⟩,⟨by (with_reducible repeat (first|apply rA|apply rN|apply rD));exact Kd.R_mono (Kd.R_far (p:=⟨gb145,3,none⟩) (Kd.R_far (p:=⟨gb145,2,none⟩) (Kd.R_types HO_6.out BK145.out (by decide)) (fun _ hk=>hk.2) (.string t197)) (fun _ hk=>hk.2) (.string t198)) (fun _ hk=>trivial)⟩,⟨by (with_reducible repeat (first|apply rA|apply rN|apply rD));exact Kd.R_mono (Kd.R_far (p:=⟨gb145,3,none⟩) (Kd.R_far (p:=⟨gb145,2,none⟩) (Kd.R_mono HO_7.out (fun k_ hk=>(⟨hk,hk⟩:_ ∧ k_ ≠ gb145))) (fun _ hk=>hk.2) (.string t197)) (fun _ hk=>hk.2) (.string t198)) (fun _ hk=>hk.1)⟩,⟨bf BK144 NB144_145⟩,⟨by (with_reducible repeat (first|apply yN|apply yD|apply yA));refine blk_put (cs:=#[.string x146000_3,.string x146001_3,.string t197,.string x146003_3,.string x146004_3,.string x146005_3]) ?_ 3 _ rfl;(with_reducible repeat (first|apply yN|apply yD|apply yA));refine blk_put (cs:=#[.string x146000_3,.string x146001_3,.string x146002_3,.string x146003_3,.string x146004_3,.string x146005_3]) ?_ 2 _ rfl;(with_reducible repeat (first|apply yN|apply yD|apply yA));exact BK145.out⟩,⟨bf BK146 NB146_145⟩,⟨bf BK156 NB156_145⟩,⟨by first|exact bb HB|exact bg HB GE144|exact bg HB GE145|exact bg HB GE146|exact bg HB GE156⟩⟩
                 ·rw [if_neg c173] at H
                  have c173b0:(t194 == 42) = false:=beq_eq_false_iff_ne.mpr c173
                  have c173b1:(t194 != 42) = true:=bne_iff_ne.mpr c173
                  have H':=aM H
                  clear H
                  have hnb183:=NB145_144.out
                  have hnc183:=NB144_145.out
                  have hnb184:=NB145_146.out
                  have hnc184:=NB146_145.out
                  have hnb185:=NB145_156.out
                  have hnc185:=NB156_145.out
                  have⟨a0,a1,a2,a3,a4,a5,b0,b1,b2,b3,b4,b5⟩:=q6f BK145
                  go_wp2_with (first|((with_reducible refine gate_callee (f:=20) rfl ?_);refine goesL_ (some 97) rfl rfl Try.func20 (by kernel_rfl) rfl #[.agg #[.string x146002_3,.string x146003_3],.int .i64 0] rfl (by (try simp only [sM,sC,sN]);first|done|rfl|(simp only [List.length_drop,List.length_take];rfl)) ?_;(with_reducible refine (spec_l01At.calls x146002_3 x146003_3 0 t194 _ A162.out).mono ?_);rintro e w187 ⟨rfl,hb⟩;refine ⟨_,rfl,?_⟩;replace HO_6:=ko HO_6 hb;replace HO_7:=ko HO_7 hb;replace BK144:=kb BK144 hb;replace BK145:=kb BK145 hb;replace BK146:=kb BK146 hb;replace BK156:=kb BK156 hb;replace HB:=aM (below_step (by first|exact bb HB|exact bg HB GE144|exact bg HB GE145|exact bg HB GE146|exact bg HB GE156) hb);(try clear hb);have hnb188:=NB144_146.out;have hnc188:=NB146_144.out;have hnb189:=NB144_156.out;have hnc189:=NB156_144.out;have⟨a0,a1,b0,b1⟩:=q2f BK144;have⟨a0,a1,a2,a3,a4,a5,b0,b1,b2,b3,b4,b5⟩:=q6f BK145))
                  go_roundg k3
                  case measure=>have:=HK1.out;have:=HK2.out;have:=HK3.out;omega
                  case rel=>exact ⟨(1 + 1),(x146000_3),(x146001_3),(a0_0),(a0_1),(x146004_3),(x146005_3),(by first|rfl|(simp;done)|(simp [*];done)),H',⟨by have:=HK1.out;have:=HK2.out;have:=HK3.out;omega⟩,⟨by (with_reducible repeat (first|apply rA|apply rN|apply rD));exact Kd.R_mono (Kd.R_far (p:=⟨gb145,3,none⟩) (Kd.R_far (p:=⟨gb145,2,none⟩) (Kd.R_types HO_6.out BK145.out (by decide)) (fun _ hk=>hk.2) (.string a0_0)) (fun _ hk=>hk.2) (.string a0_1)) (fun _ hk=>trivial)⟩,⟨by (with_reducible repeat (first|apply rA|apply rN|apply rD));exact Kd.R_mono (Kd.R_far (p:=⟨gb145,3,none⟩) (Kd.R_far (p:=⟨gb145,2,none⟩) (Kd.R_mono HO_7.out (fun k_ hk=>(⟨hk,hk⟩:_ ∧ k_ ≠ gb145))) (fun _ hk=>hk.2) (.string a0_0)) (fun _ hk=>hk.2) (.string a0_1)) (fun _ hk=>hk.1)⟩,⟨bf BK144 NB144_145⟩,⟨by (with_reducible repeat (first|apply yN|apply yD|apply yA));refine blk_put (cs:=#[.string x146000_3,.string x146001_3,.string a0_0,.string x146003_3,.string x146004_3,.string x146005_3]) ?_ 3 _ rfl;(with_reducible repeat (first|apply yN|apply yD|apply yA));refine blk_put (cs:=#[.string x146000_3,.string x146001_3,.string x146002_3,.string x146003_3,.string x146004_3,.string x146005_3]) ?_ 2 _ rfl;(with_reducible repeat (first|apply yN|apply yD|apply yA));exact BK145.out⟩,⟨bf BK146 NB146_145⟩,⟨bf BK156 NB156_145⟩,⟨by first|exact bb HB|exact bg HB GE144|exact bg HB GE145|exact bg HB GE146|exact bg HB GE156⟩⟩
               ·rw [if_neg c161] at H
                by_cases c192:x14_3 = 2
                ·subst c192
                 have H1:((spec_l01At.f x146004_3 x146005_3 0).bind fun t199=>(if t199 = t160 then ((spec_l01Shift.f x146004_3 x146005_3).bind fun bt200=>(spec_l06Middle.l2 k3 y186 y183 x8_1 t160 (2 + 1) a0_0 a0_1 x146000_3 x146001_3 x146002_3 x146003_3 bt200.1 bt200.2)) else (if t199 = 42 then ((spec_l01Shift.f x146004_3 x146005_3).bind fun bt202=>(spec_l06Middle.l2 k3 y186 y183 x8_1 t160 (2 + 1) a0_0 a0_1 x146000_3 x146001_3 x146002_3 x146003_3 bt202.1 bt202.2)) else (spec_l06Middle.l2 k3 y186 y183 x8_1 t160 (2 + 1) a0_0 a0_1 x146000_3 x146001_3 x146002_3 x146003_3 a0_0 a0_1)))) = some (r1,r2,r3):=by rw [if_pos rfl] at H;exact H
                 clear H
                 have H:=H1
                 clear H1
                 replace H:=Option.bind_eq_some_iff.mp H
                 obtain ⟨t199,A1930,H⟩:=H
                 replace H:(if t199 = t160 then ((spec_l01Shift.f x146004_3 x146005_3).bind fun bt200=>(spec_l06Middle.l2 k3 y186 y183 x8_1 t160 (2 + 1) a0_0 a0_1 x146000_3 x146001_3 x146002_3 x146003_3 bt200.1 bt200.2)) else (if t199 = 42 then ((spec_l01Shift.f x146004_3 x146005_3).bind fun bt202=>(spec_l06Middle.l2 k3 y186 y183 x8_1 t160 (2 + 1) a0_0 a0_1 x146000_3 x146001_3 x146002_3 x146003_3 bt202.1 bt202.2)) else (spec_l06Middle.l2 k3 y186 y183 x8_1 t160 (2 + 1) a0_0 a0_1 x146000_3 x146001_3 x146002_3 x146003_3 a0_0 a0_1))) = some (r1,r2,r3):=H;have A193:=aM A1930
                 clear A1930
                 by_cases c194:t199 = t160
                 ·rw [if_pos c194] at H
                  have c194b0:(t199 == t160) = true:=beq_iff_eq.mpr c194
                  have c194b1:(t199 != t160) = false:=bne_eq_false_iff_eq.mpr c194
                  clear c194
                  replace H:=Option.bind_eq_some_iff.mp H
                  obtain ⟨⟨t200,t201⟩,A1950,H⟩:=H
                  replace H:(spec_l06Middle.l2 k3 y186 y183 x8_1 t160 (2 + 1) a0_0 a0_1 x146000_3 x146001_3 x146002_3 x146003_3 t200 t201) = some (r1,r2,r3):=H;have A195:=aM A1950
                  clear A1950
                  have H':=aM H
                  clear H
                  have hnb196:=NB145_144.out
                  have hnc196:=NB144_145.out
                  have hnb197:=NB145_146.out
                  have hnc197:=NB146_145.out
                  have hnb198:=NB145_156.out
                  have hnc198:=NB156_145.out
                  have⟨a0,a1,a2,a3,a4,a5,b0,b1,b2,b3,b4,b5⟩:=q6f BK145
                  go_wp2_with (first|((with_reducible refine gate_callee (f:=20) rfl ?_);refine goesL_ (some 97) rfl rfl Try.func20 (by kernel_rfl) rfl #[.agg #[.string x146004_3,.string x146005_3],.int .i64 0] rfl (by (try simp only [sM,sC,sN]);first|done|rfl|(simp only [List.length_drop,List.length_take];rfl)) ?_;(with_reducible refine (spec_l01At.calls x146004_3 x146005_3 0 t199 _ A193.out).mono ?_);rintro e w200 ⟨rfl,hb⟩;refine ⟨_,rfl,?_⟩;replace HO_6:=ko HO_6 hb;replace HO_7:=ko HO_7 hb;replace BK144:=kb BK144 hb;replace BK145:=kb BK145 hb;replace BK146:=kb BK146 hb;replace BK156:=kb BK156 hb;replace HB:=aM (below_step (by first|exact bb HB|exact bg HB GE144|exact bg HB GE145|exact bg HB GE146|exact bg HB GE156) hb);(try clear hb);have⟨a0,a1,a2,a3,a4,a5,b0,b1,b2,b3,b4,b5⟩:=q6f BK145)|((with_reducible refine gate_callee (f:=21) rfl ?_);refine goesL_ (some 109) rfl rfl Try.func21 (by kernel_rfl) rfl #[.agg #[.string x146004_3,.string x146005_3]] rfl (by (try simp only [sM,sC,sN]);first|done|rfl|(simp only [List.length_drop,List.length_take];rfl)) ?_;(with_reducible refine (spec_l01Shift.calls x146004_3 x146005_3 t200 t201 _ A195.out).mono ?_);rintro e w202 ⟨rfl,hb⟩;refine ⟨_,rfl,?_⟩;replace HO_6:=ko HO_6 hb;replace HO_7:=ko HO_7 hb;replace BK144:=kb BK144 hb;replace BK145:=kb BK145 hb;replace BK146:=kb BK146 hb;replace BK156:=kb BK156 hb;replace HB:=aM (below_step (by first|exact bb HB|exact bg HB GE144|exact bg HB GE145|exact bg HB GE146|exact bg HB GE156) hb);(try clear hb);have⟨a0,a1,a2,a3,a4,a5,b0,b1,b2,b3,b4,b5⟩:=q6f BK145))
                  go_roundg k3
                  case measure=>have:=HK1.out;have:=HK2.out;have:=HK3.out;omega
                  case rel=>exact ⟨(2 + 1),(x146000_3),(x146001_3),(x146002_3),(x146003_3),(t200),(t201),(by first|rfl|(simp;done)|(simp [*];done)),H',⟨by have:=HK1.out;have:=HK2.out;have:=HK3.out;omega⟩,⟨by (with_reducible repeat (first|apply rA|apply rN|apply rD));exact Kd.R_mono (Kd.R_far (p:=⟨gb145,5,none⟩) (Kd.R_far (p:=⟨gb145,4,none⟩) (Kd.R_types HO_6.out BK145.out (by decide)) (fun _ hk=>hk.2) (.string t200)) (fun _ hk=>hk.2) (.string t201)) (fun _ hk=>trivial)⟩,⟨by (with_reducible repeat (first|apply rA|apply rN|apply rD));exact Kd.R_mono (Kd.R_far (p:=⟨gb145,5,none⟩) (Kd.R_far (p:=⟨gb145,4,none⟩) (Kd.R_mono HO_7.out (fun k_ hk=>(⟨hk,hk⟩:_ ∧ k_ ≠ gb145))) (fun _ hk=>hk.2) (.string t200)) (fun _ hk=>hk.2) (.string t201)) (fun _ hk=>hk.1)⟩,⟨bf BK144 NB144_145⟩,⟨by (with_reducible repeat (first|apply yN|apply yD|apply yA));refine blk_put (cs:=#[.string x146000_3,.string x146001_3,.string x146002_3,.string x146003_3,.string t200,.string x146005_3]) ?_ 5 _ rfl;(with_reducible repeat (first|apply yN|apply yD|apply yA));refine blk_put (cs:=#[.string x146000_3,.string x146001_3,.string x146002_3,.string x146003_3,.string x146004_3,.string x146005_3]) ?_ 4 _ rfl;(with_reducible repeat (first|apply yN|apply yD|apply yA));exact BK145.out⟩,⟨bf BK146 NB146_145⟩,⟨bf BK156 NB156_145⟩,⟨by first|exact bb HB|exact bg HB GE144|exact bg HB GE145|exact bg HB GE146|exact bg HB GE156⟩⟩
                 ·rw [if_neg c194] at H
                  have c194b0:(t199 == t160) = false:=beq_eq_false_iff_ne.mpr c194
                  have c194b1:(t199 != t160) = true:=bne_iff_ne.mpr c194
                  by_cases c204:t199 = 42
                  ·rw [if_pos c204] at H
                   have c204b0:(t199 == 42) = true:=beq_iff_eq.mpr c204
                   have c204b1:(t199 != 42) = false:=bne_eq_false_iff_eq.mpr c204
                   clear c204
                   replace H:=Option.bind_eq_some_iff.mp H
                   obtain ⟨⟨t202,t203⟩,A2050,H⟩:=H
                   replace H:(spec_l06Middle.l2 k3 y186 y183 x8_1 t160 (2 + 1) a0_0 a0_1 x146000_3 x146001_3 x146002_3 x146003_3 t202 t203) = some (r1,r2,r3):=H;have A205:=aM A2050
                   clear A2050
                   have H':=aM H
                   clear H
                   have hnb206:=NB145_144.out
                   have hnc206:=NB144_145.out
                   have hnb207:=NB145_146.out
                   have hnc207:=NB146_145.out
                   have hnb208:=NB145_156.out
                   have hnc208:=NB156_145.out
                   have⟨a0,a1,a2,a3,a4,a5,b0,b1,b2,b3,b4,b5⟩:=q6f BK145
                   go_wp2_with (first|((with_reducible refine gate_callee (f:=20) rfl ?_);refine goesL_ (some 97) rfl rfl Try.func20 (by kernel_rfl) rfl #[.agg #[.string x146004_3,.string x146005_3],.int .i64 0] rfl (by (try simp only [sM,sC,sN]);first|done|rfl|(simp only [List.length_drop,List.length_take];rfl)) ?_;(with_reducible refine (spec_l01At.calls x146004_3 x146005_3 0 t199 _ A193.out).mono ?_);rintro e w210 ⟨rfl,hb⟩;refine ⟨_,rfl,?_⟩;replace HO_6:=ko HO_6 hb;replace HO_7:=ko HO_7 hb;replace BK144:=kb BK144 hb;replace BK145:=kb BK145 hb;replace BK146:=kb BK146 hb;replace BK156:=kb BK156 hb;replace HB:=aM (below_step (by first|exact bb HB|exact bg HB GE144|exact bg HB GE145|exact bg HB GE146|exact bg HB GE156) hb);(try clear hb);have⟨a0,a1,a2,a3,a4,a5,b0,b1,b2,b3,b4,b5⟩:=q6f BK145)|((with_reducible refine gate_callee (f:=21) rfl ?_);refine goesL_ (some 109) rfl rfl Try.func21 (by kernel_rfl) rfl #[.agg #[.string x146004_3,.string x146005_3]] rfl (by (try simp only [sM,sC,sN]);first|done|rfl|(simp only [List.length_drop,List.length_take];rfl)) ?_;(with_reducible refine (spec_l01Shift.calls x146004_3 x146005_3 t202 t203 _ A205.out).mono ?_);rintro e w212 ⟨rfl,hb⟩;refine ⟨_,rfl,?_⟩;replace HO_6:=ko HO_6 hb;replace HO_7:=ko HO_7 hb;replace BK144:=kb BK144 hb;replace BK145:=kb BK145 hb;replace BK146:=kb BK146 hb;replace BK156:=kb BK156 hb;replace HB:=aM (below_step (by first|exact bb HB|exact bg HB GE144|exact bg HB GE145|exact bg HB GE146|exact bg HB GE156) hb);(try clear hb);have⟨a0,a1,a2,a3,a4,a5,b0,b1,b2,b3,b4,b5⟩:=q6f BK145))
                   go_roundg k3
                   case measure=>have:=HK1.out;have:=HK2.out;have:=HK3.out;omega
                   case rel=>exact ⟨(2 + 1),(x146000_3),(x146001_3),(x146002_3),(x146003_3),(t202),(t203),(by first|rfl|(simp;done)|(simp [*];done)),H',⟨by have:=HK1.out;have:=HK2.out;have:=HK3.out;omega⟩,⟨by (with_reducible repeat (first|apply rA|apply rN|apply rD));exact Kd.R_mono (Kd.R_far (p:=⟨gb145,5,none⟩) (Kd.R_far (p:=⟨gb145,4,none⟩) (Kd.R_types HO_6.out BK145.out (by decide)) (fun _ hk=>hk.2) (.string t202)) (fun _ hk=>hk.2) (.string t203)) (fun _ hk=>trivial)⟩,⟨by (with_reducible repeat (first|apply rA|apply rN|apply rD));exact Kd.R_mono (Kd.R_far (p:=⟨gb145,5,none⟩) (Kd.R_far (p:=⟨gb145,4,none⟩) (Kd.R_mono HO_7.out (fun k_ hk=>(⟨hk,hk⟩:_ ∧ k_ ≠ gb145))) (fun _ hk=>hk.2) (.string t202)) (fun _ hk=>hk.2) (.string t203)) (fun _ hk=>hk.1)⟩,⟨bf BK144 NB144_145⟩,⟨by (with_reducible repeat (first|apply yN|apply yD|apply yA));refine blk_put (cs:=#[.string x146000_3,.string x146001_3,.string x146002_3,.string x146003_3,.string t202,.string x146005_3]) ?_ 5 _ rfl;(with_reducible repeat (first|apply yN|apply yD|apply yA));refine blk_put (cs:=#[.string x146000_3,.string x146001_3,.string x146002_3,.string x146003_3,.string x146004_3,.string x146005_3]) ?_ 4 _ rfl;(with_reducible repeat (first|apply yN|apply yD|apply yA));exact BK145.out⟩,⟨bf BK146 NB146_145⟩,⟨bf BK156 NB156_145⟩,⟨by first|exact bb HB|exact bg HB GE144|exact bg HB GE145|exact bg HB GE146|exact bg HB GE156⟩⟩
                  ·rw [if_neg c204] at H
                   have c204b0:(t199 == 42) = false:=beq_eq_false_iff_ne.mpr c204
                   have c204b1:(t199 != 42) = true:=bne_iff_ne.mpr c204
                   have H':=aM H
                   clear H
                   have hnb214:=NB145_144.out
                   have hnc214:=NB144_145.out
                   have hnb215:=NB145_146.out
                   have hnc215:=NB146_145.out
                   have hnb216:=NB145_156.out
                   have hnc216:=NB156_145.out
                   have⟨a0,a1,a2,a3,a4,a5,b0,b1,b2,b3,b4,b5⟩:=q6f BK145
                   go_wp2_with (first|((with_reducible refine gate_callee (f:=20) rfl ?_);refine goesL_ (some 97) rfl rfl Try.func20 (by kernel_rfl) rfl #[.agg #[.string x146004_3,.string x146005_3],.int .i64 0] rfl (by (try simp only [sM,sC,sN]);first|done|rfl|(simp only [List.length_drop,List.length_take];rfl)) ?_;(with_reducible refine (spec_l01At.calls x146004_3 x146005_3 0 t199 _ A193.out).mono ?_);rintro e w218 ⟨rfl,hb⟩;refine ⟨_,rfl,?_⟩;replace HO_6:=ko HO_6 hb;replace HO_7:=ko HO_7 hb;replace BK144:=kb BK144 hb;replace BK145:=kb BK145 hb;replace BK146:=kb BK146 hb;replace BK156:=kb BK156 hb;replace HB:=aM (below_step (by first|exact bb HB|exact bg HB GE144|exact bg HB GE145|exact bg HB GE146|exact bg HB GE156) hb);(try clear hb);have hnb219:=NB144_146.out;have hnc219:=NB146_144.out;have hnb220:=NB144_156.out;have hnc220:=NB156_144.out;have⟨a0,a1,b0,b1⟩:=q2f BK144;have⟨a0,a1,a2,a3,a4,a5,b0,b1,b2,b3,b4,b5⟩:=q6f BK145))
                   go_roundg k3
                   case measure=>have:=HK1.out;have:=HK2.out;have:=HK3.out;omega
                   case rel=>exact ⟨(2 + 1),(x146000_3),(x146001_3),(x146002_3),(x146003_3),(a0_0),(a0_1),(by first|rfl|(simp;done)|(simp [*];done)),H',⟨by have:=HK1.out;have:=HK2.out;have:=HK3.out;omega⟩,⟨by (with_reducible repeat (first|apply rA|apply rN|apply rD));exact Kd.R_mono (Kd.R_far (p:=⟨gb145,5,none⟩) (Kd.R_far (p:=⟨gb145,4,none⟩) (Kd.R_types HO_6.out BK145.out (by decide)) (fun _ hk=>hk.2) (.string a0_0)) (fun _ hk=>hk.2) (.string a0_1)) (fun _ hk=>trivial)⟩,⟨by (with_reducible repeat (first|apply rA|apply rN|apply rD));exact Kd.R_mono (Kd.R_far (p:=⟨gb145,5,none⟩) (Kd.R_far (p:=⟨gb145,4,none⟩) (Kd.R_mono HO_7.out (fun k_ hk=>(⟨hk,hk⟩:_ ∧ k_ ≠ gb145))) (fun _ hk=>hk.2) (.string a0_0)) (fun _ hk=>hk.2) (.string a0_1)) (fun _ hk=>hk.1)⟩,⟨bf BK144 NB144_145⟩,⟨by (with_reducible repeat (first|apply yN|apply yD|apply yA));refine blk_put (cs:=#[.string x146000_3,.string x146001_3,.string x146002_3,.string x146003_3,.string a0_0,.string x146005_3]) ?_ 5 _ rfl;(with_reducible repeat (first|apply yN|apply yD|apply yA));refine blk_put (cs:=#[.string x146000_3,.string x146001_3,.string x146002_3,.string x146003_3,.string x146004_3,.string x146005_3]) ?_ 4 _ rfl;(with_reducible repeat (first|apply yN|apply yD|apply yA));exact BK145.out⟩,⟨bf BK146 NB146_145⟩,⟨bf BK156 NB156_145⟩,⟨by first|exact bb HB|exact bg HB GE144|exact bg HB GE145|exact bg HB GE146|exact bg HB GE156⟩⟩
                ·rw [if_neg c192] at H
                 exact absurd H (by simp)
             ·rw [if_neg c129] at H
              have c129b0:decide (x14_3 < 3) = false:=decide_eq_false c129
              clear c129
              have H':=aM H
              clear H
              go_wp2
              go_roundg k3
              case measure=>have:=HK1.out;have:=HK2.out;have:=HK3.out;omega
              case rel=>exact ⟨(y186),(y183),(wrap64 (x8_1 + 1)),(x146000_3),(x146001_3),(x146002_3),(x146003_3),(x146004_3),(x146005_3),(x147000_2),(x147001_2),(by first|rfl|(simp;done)|(simp [*];done)),H',⟨by have:=HK1.out;have:=HK2.out;have:=HK3.out;omega⟩,⟨rk HO_6⟩,⟨rk HO_7⟩,⟨bk BK144⟩,⟨bk BK145⟩,⟨bk BK146⟩,⟨by first|exact bb HB|exact bg HB GE144|exact bg HB GE145|exact bg HB GE146|exact bg HB GE156⟩⟩
          ·rw [if_neg c121] at H
           exact absurd H (by simp)
         ·rw [if_neg c120] at H
          exact absurd H (by simp)
   ·rw [if_neg c10] at H
    have c10b0:decide (x8_1 ≤ 600) = false:=decide_eq_false c10
    clear c10
    simp only [Option.some.injEq,Prod.mk.injEq] at H
    obtain ⟨rfl,rfl,rfl⟩:=H
    have hnb223:=NB146_144.out
    have hnc223:=NB144_146.out
    have hnb224:=NB146_145.out
    have hnc224:=NB145_146.out
    have⟨a0,a1,b0,b1⟩:=q2f BK146
    go_wp2
    refine bodyPost_ret (results_ct rfl _ _ gb146 27 #[.string ⟨#[]⟩,.string ⟨#[]⟩] (0,0) _ rfl (by (with_reducible repeat (first|apply yN|apply yD|apply yA));refine blk_put (cs:=#[.string ⟨#[]⟩,.string x147001_1]) ?_ 1 _ rfl;(with_reducible repeat (first|apply yN|apply yD|apply yA));refine blk_put (cs:=#[.string x147000_1,.string x147001_1]) ?_ 0 _ rfl;(with_reducible repeat (first|apply yN|apply yD|apply yA));exact BK146.out) Try.underlying27 rfl (by kernel_rfl)) rfl ?_
    exact ⟨by first|rfl|(simp [errW_none,errW_some] <;> rfl)|(simp [*,errW_none,errW_some] <;> rfl),by first|exact bb HB|exact bg HB GE144|exact bg HB GE145|exact bg HB GE146⟩
end Go.Proofs.Ytbiehbmojbmnoaa.Q
end
section
namespace Go.Proofs.Ytbiehbmojbmnoaa.Q
open Go.Proofs.YtbiehbmojbmnoaaW.Ext
open Go.RowKit Go.Proofs.YtbiehbmojbmnoaaW.PrintWords Go.Proofs.YtbiehbmojbmnoaaW.PrintLast Go.Proofs.YtbiehbmojbmnoaaW.PrintMore
attribute [local go_sem] max2_int min2_int max_two min_two max_three min_three max_four min_four   -- for this text's walks alone
set_option linter.unusedVariables false
set_option linter.unusedSimpArgs false
attribute [local go_sem high] eqA27
def spec_IsBetween.f (k:Nat) (a0_0:ByteArray) (a0_1:ByteArray) (a1_0:ByteArray) (a1_1:ByteArray) (a2_0:ByteArray) (a2_1:ByteArray) (a3_0:ByteArray) (a3_1:ByteArray):Option (Bool × Int):=(spec_l06Three.f k a0_0 a0_1 a1_0 a1_1 a2_0 a2_1 a3_0 a3_1).bind fun t208=>(if t208 = 0 then ((spec_l06Middle.f k a0_0 a0_1 a1_0 a1_1 a2_0 a2_1 a3_0 a3_1).bind fun bt209=>(if bt209.2.2 = true then (some ((bt209.1.toList == a2_0.toList && (bt209.2.1.toList == a2_1.toList)),0)) else (some (false,3)))) else (some (false,t208)))
theorem spec_IsBetween.mono:∀ a0 a1 a2 a3 a4 a5 a6 a7 k,LeO (spec_IsBetween.f k a0 a1 a2 a3 a4 a5 a6 a7) (spec_IsBetween.f (k + 1) a0 a1 a2 a3 a4 a5 a6 a7):=by
 intro a0 a1 a2 a3 a4 a5 a6 a7 k
 unfold spec_IsBetween.f
 repeat' first
   | (with_reducible exact spec_l06Middle.mono _ _ _ _ _ _ _ _ _)
   | (with_reducible exact spec_l06Three.mono _ _ _ _ _ _ _ _ _)
   | (with_reducible exact LeO.refl _)
   | (with_reducible exact LeO.none _)
   | (with_reducible refine LeO.ite ?_ ?_)
   | (with_reducible refine LeO.bind ?_ (fun _=>?_))
   | exact spec_l06Middle.mono _ _ _ _ _ _ _ _ _
   | exact spec_l06Three.mono _ _ _ _ _ _ _ _ _
   | exact LeO.none _
   | refine LeO.ite ?_ ?_
   | refine LeO.bind ?_ (fun _=>?_)
set_option maxHeartbeats 8000000 in
set_option maxRecDepth 100000 in
theorem spec_IsBetween.calls (k:Nat) (a0_0:ByteArray) (a0_1:ByteArray) (a1_0:ByteArray) (a1_1:ByteArray) (a2_0:ByteArray) (a2_1:ByteArray) (a3_0:ByteArray) (a3_1:ByteArray) (r1:Bool) (r2:Int) (w:World) (h:spec_IsBetween.f k a0_0 a0_1 a1_0 a1_1 a2_0 a2_1 a3_0 a3_1 = some (r1,r2)) :
  Calls Try.prog 6 #[.agg #[.string a0_0,.string a0_1],.agg #[.string a1_0,.string a1_1],.agg #[.string a2_0,.string a2_1],.agg #[.string a3_0,.string a3_1]] w fun e w'=>e = .returned (.tuple #[.bool r1,.int .i64 r2]) ∧ Below w.heap.size w w':=by
 have hu27:=Try.underlying27
 have hu36:=Try.underlying36
 have HB:=aM (Below.refl w.heap.size w)
 have H:((spec_l06Three.f k a0_0 a0_1 a1_0 a1_1 a2_0 a2_1 a3_0 a3_1).bind fun t208=>(if t208 = 0 then ((spec_l06Middle.f k a0_0 a0_1 a1_0 a1_1 a2_0 a2_1 a3_0 a3_1).bind fun bt209=>(if bt209.2.2 = true then (some ((bt209.1.toList == a2_0.toList && (bt209.2.1.toList == a2_1.toList)),0)) else (some (false,3)))) else (some (false,t208)))) = some (r1,r2):=h
 clear h
 replace H:=Option.bind_eq_some_iff.mp H
 obtain ⟨t208,A50,H⟩:=H
 replace H:(if t208 = 0 then ((spec_l06Middle.f k a0_0 a0_1 a1_0 a1_1 a2_0 a2_1 a3_0 a3_1).bind fun bt209=>(if bt209.2.2 = true then (some ((bt209.1.toList == a2_0.toList && (bt209.2.1.toList == a2_1.toList)),0)) else (some (false,3)))) else (some (false,t208))) = some (r1,r2):=H;have A5:=aM A50
 clear A50
 by_cases c6:t208 = 0
 ·rw [if_pos c6] at H
  have c6b0:(t208 == 0) = true:=beq_iff_eq.mpr c6
  have c6b1:(t208 != 0) = false:=bne_eq_false_iff_eq.mpr c6
  clear c6
  replace H:=Option.bind_eq_some_iff.mp H
  obtain ⟨⟨t209,t210,t211⟩,A70,H⟩:=H
  replace H:(if t211 = true then (some ((t209.toList == a2_0.toList && (t210.toList == a2_1.toList)),0)) else (some (false,3))) = some (r1,r2):=H;have A7:=aM A70
  clear A70
  by_cases c8:t211 = true
  ·subst c8
   have H1:(some ((t209.toList == a2_0.toList && (t210.toList == a2_1.toList)),0)) = some (r1,r2):=by rw [if_pos rfl] at H;exact H
   clear H
   have H:=H1
   clear H1
   simp only [Option.some.injEq,Prod.mk.injEq] at H
   obtain ⟨rfl,rfl⟩:=H
   go_enter Try.func6,Try.ntmps6
   go_wp2_with (first|((with_reducible refine gate_dst (N:=4) rfl ?_);refine box_event ?hg (N:=4) ?hd (cs:=#[.string a0_0,.string a0_1]) (t:=27) ?hr ?_;(case hd=>rfl);(case hg=>rfl);(case hr=>first|(go_simp;done)|(go_simp;rfl));intro gb204 hg w9 hbox hb;have BK204:=aM (hbox);have GW204:=wl hg HB;have GE204:=wl hg HB;replace HB:=bs HB hb;clear hb hbox hg)|((with_reducible refine gate_dst (N:=5) rfl ?_);refine box_event ?hg (N:=5) ?hd (cs:=#[.string a1_0,.string a1_1]) (t:=27) ?hr ?_;(case hd=>rfl);(case hg=>rfl);(case hr=>first|(go_simp;done)|(go_simp;rfl));intro gb205 hg w10 hbox hb;have BK205:=aM (hbox);have GW205:=wl hg HB;have GE205:=wl hg HB;have NB204_205:=nl hg BK204;have NB205_204:=nr hg BK204;replace BK204:=kb BK204 hb;replace HB:=bs HB hb;clear hb hbox hg)|((with_reducible refine gate_dst (N:=6) rfl ?_);refine box_event ?hg (N:=6) ?hd (cs:=#[.string a2_0,.string a2_1]) (t:=27) ?hr ?_;(case hd=>rfl);(case hg=>rfl);(case hr=>first|(go_simp;done)|(go_simp;rfl));intro gb206 hg w11 hbox hb;have BK206:=aM (hbox);have GW206:=wl hg HB;have GE206:=wl hg HB;have NB204_206:=nl hg BK204;have NB206_204:=nr hg BK204;have NB205_206:=nl hg BK205;have NB206_205:=nr hg BK205;replace BK204:=kb BK204 hb;replace BK205:=kb BK205 hb;replace HB:=bs HB hb;clear hb hbox hg)|((with_reducible refine gate_dst (N:=7) rfl ?_);refine box_event ?hg (N:=7) ?hd (cs:=#[.string a3_0,.string a3_1]) (t:=27) ?hr ?_;(case hd=>rfl);(case hg=>rfl);(case hr=>first|(go_simp;done)|(go_simp;rfl));intro gb207 hg w12 hbox hb;have BK207:=aM (hbox);have GW207:=wl hg HB;have GE207:=wl hg HB;have NB204_207:=nl hg BK204;have NB207_204:=nr hg BK204;have NB205_207:=nl hg BK205;have NB207_205:=nr hg BK205;have NB206_207:=nl hg BK206;have NB207_206:=nr hg BK206;replace BK204:=kb BK204 hb;replace BK205:=kb BK205 hb;replace BK206:=kb BK206 hb;replace HB:=bs HB hb;clear hb hbox hg;have hnb13:=NB204_205.out;have hnc13:=NB205_204.out;have hnb14:=NB204_206.out;have hnc14:=NB206_204.out;have hnb15:=NB204_207.out;have hnc15:=NB207_204.out;have⟨a0,a1,b0,b1⟩:=q2f BK204;have hnb17:=NB205_206.out;have hnc17:=NB206_205.out;have hnb18:=NB205_207.out;have hnc18:=NB207_205.out;have⟨a0,a1,b0,b1⟩:=q2f BK205;have hnb20:=NB206_207.out;have hnc20:=NB207_206.out;have⟨a0,a1,b0,b1⟩:=q2f BK206;have⟨a0,a1,b0,b1⟩:=q2f BK207)|((with_reducible refine gate_callee (f:=12) rfl ?_);refine goesL_ (some 17) rfl rfl Try.func12 (by kernel_rfl) rfl #[.agg #[.string a0_0,.string a0_1],.agg #[.string a1_0,.string a1_1],.agg #[.string a2_0,.string a2_1],.agg #[.string a3_0,.string a3_1]] rfl (by (try simp only [sM,sC,sN]);first|done|rfl|(simp only [List.length_drop,List.length_take];rfl)) ?_;(with_reducible refine (spec_l06Three.calls k a0_0 a0_1 a1_0 a1_1 a2_0 a2_1 a3_0 a3_1 t208 _ A5.out).mono ?_);rintro e w23 ⟨rfl,hb⟩;refine ⟨_,rfl,?_⟩;replace BK204:=kb BK204 hb;replace BK205:=kb BK205 hb;replace BK206:=kb BK206 hb;replace BK207:=kb BK207 hb;replace HB:=bs HB hb;(try clear hb);have⟨a0,a1,b0,b1⟩:=q2f BK204;have⟨a0,a1,b0,b1⟩:=q2f BK205;have⟨a0,a1,b0,b1⟩:=q2f BK206;have⟨a0,a1,b0,b1⟩:=q2f BK207)|((with_reducible refine gate_callee (f:=13) rfl ?_);refine goesL_ (some 27) rfl rfl Try.func13 (by kernel_rfl) rfl #[.agg #[.string a0_0,.string a0_1],.agg #[.string a1_0,.string a1_1,.string a2_0,.string a2_1,.string a3_0,.string a3_1]] rfl (by (try simp only [sM,sC,sN]);first|done|rfl|(simp only [List.length_drop,List.length_take];rfl)) ?_;(with_reducible refine (spec_l06Middle.calls k a0_0 a0_1 a1_0 a1_1 a2_0 a2_1 a3_0 a3_1 t209 t210 true _ A7.out).mono ?_);rintro e w28 ⟨rfl,hb⟩;refine ⟨_,rfl,?_⟩;replace BK204:=kb BK204 hb;replace BK205:=kb BK205 hb;replace BK206:=kb BK206 hb;replace BK207:=kb BK207 hb;replace HB:=bs HB hb;(try clear hb))|((with_reducible refine gate_dst (N:=11) rfl ?_);refine box_event ?hg (N:=11) ?hd (cs:=#[.string ⟨#[]⟩,.string ⟨#[]⟩]) (t:=27) ?hr ?_;(case hd=>rfl);(case hg=>rfl);(case hr=>first|(go_simp;done)|(go_simp;rfl));intro gb212 hg w29 hbox hb;have BK212:=aM (hbox);have GW212:=wl hg HB;have GE212:=wl hg HB;have NB204_212:=nl hg BK204;have NB212_204:=nr hg BK204;have NB205_212:=nl hg BK205;have NB212_205:=nr hg BK205;have NB206_212:=nl hg BK206;have NB212_206:=nr hg BK206;have NB207_212:=nl hg BK207;have NB212_207:=nr hg BK207;replace BK204:=kb BK204 hb;replace BK205:=kb BK205 hb;replace BK206:=kb BK206 hb;replace BK207:=kb BK207 hb;replace HB:=bs HB hb;clear hb hbox hg;have hnb30:=NB212_204.out;have hnc30:=NB204_212.out;have hnb31:=NB212_205.out;have hnc31:=NB205_212.out;have hnb32:=NB212_206.out;have hnc32:=NB206_212.out;have hnb33:=NB212_207.out;have hnc33:=NB207_212.out;have⟨a0,a1,b0,b1⟩:=q2f BK212;have⟨a0,a1,b0,b1⟩:=q2f BK206))
   go_ret2
   exact ⟨by first|rfl|(simp [errW_none,errW_some] <;> rfl)|(simp [*,errW_none,errW_some] <;> rfl),by first|exact bb HB|exact bg HB GE204|exact bg HB GE205|exact bg HB GE206|exact bg HB GE207|exact bg HB GE212⟩
  ·replace c8:=Bool.eq_false_iff.mpr c8
   subst c8
   have H1:(some (false,3)) = some (r1,r2):=by rw [if_neg (show ¬ (false = true) by decide)] at H;exact H
   clear H
   have H:=H1
   clear H1
   simp only [Option.some.injEq,Prod.mk.injEq] at H
   obtain ⟨rfl,rfl⟩:=H
   go_enter Try.func6,Try.ntmps6
   go_wp2_with (first|((with_reducible refine gate_dst (N:=4) rfl ?_);refine box_event ?hg (N:=4) ?hd (cs:=#[.string a0_0,.string a0_1]) (t:=27) ?hr ?_;(case hd=>rfl);(case hg=>rfl);(case hr=>first|(go_simp;done)|(go_simp;rfl));intro gb204 hg w36 hbox hb;have BK204:=aM (hbox);have GW204:=wl hg HB;have GE204:=wl hg HB;replace HB:=bs HB hb;clear hb hbox hg)|((with_reducible refine gate_dst (N:=5) rfl ?_);refine box_event ?hg (N:=5) ?hd (cs:=#[.string a1_0,.string a1_1]) (t:=27) ?hr ?_;(case hd=>rfl);(case hg=>rfl);(case hr=>first|(go_simp;done)|(go_simp;rfl));intro gb205 hg w37 hbox hb;have BK205:=aM (hbox);have GW205:=wl hg HB;have GE205:=wl hg HB;have NB204_205:=nl hg BK204;have NB205_204:=nr hg BK204;replace BK204:=kb BK204 hb;replace HB:=bs HB hb;clear hb hbox hg)|((with_reducible refine gate_dst (N:=6) rfl ?_);refine box_event ?hg (N:=6) ?hd (cs:=#[.string a2_0,.string a2_1]) (t:=27) ?hr ?_;(case hd=>rfl);(case hg=>rfl);(case hr=>first|(go_simp;done)|(go_simp;rfl));intro gb206 hg w38 hbox hb;have BK206:=aM (hbox);have GW206:=wl hg HB;have GE206:=wl hg HB;have NB204_206:=nl hg BK204;have NB206_204:=nr hg BK204;have NB205_206:=nl hg BK205;have NB206_205:=nr hg BK205;replace BK204:=kb BK204 hb;replace BK205:=kb BK205 hb;replace HB:=bs HB hb;clear hb hbox hg)|((with_reducible refine gate_dst (N:=7) rfl ?_);refine box_event ?hg (N:=7) ?hd (cs:=#[.string a3_0,.string a3_1]) (t:=27) ?hr ?_;(case hd=>rfl);(case hg=>rfl);(case hr=>first|(go_simp;done)|(go_simp;rfl));intro gb207 hg w39 hbox hb;have BK207:=aM (hbox);have GW207:=wl hg HB;have GE207:=wl hg HB;have NB204_207:=nl hg BK204;have NB207_204:=nr hg BK204;have NB205_207:=nl hg BK205;have NB207_205:=nr hg BK205;have NB206_207:=nl hg BK206;have NB207_206:=nr hg BK206;replace BK204:=kb BK204 hb;replace BK205:=kb BK205 hb;replace BK206:=kb BK206 hb;replace HB:=bs HB hb;clear hb hbox hg;have hnb40:=NB204_205.out;have hnc40:=NB205_204.out;have hnb41:=NB204_206.out;have hnc41:=NB206_204.out;have hnb42:=NB204_207.out;have hnc42:=NB207_204.out;have⟨a0,a1,b0,b1⟩:=q2f BK204;have hnb44:=NB205_206.out;have hnc44:=NB206_205.out;have hnb45:=NB205_207.out;have hnc45:=NB207_205.out;have⟨a0,a1,b0,b1⟩:=q2f BK205;have hnb47:=NB206_207.out;have hnc47:=NB207_206.out;have⟨a0,a1,b0,b1⟩:=q2f BK206;have⟨a0,a1,b0,b1⟩:=q2f BK207)|((with_reducible refine gate_callee (f:=12) rfl ?_);refine goesL_ (some 17) rfl rfl Try.func12 (by kernel_rfl) rfl #[.agg #[.string a0_0,.string a0_1],.agg #[.string a1_0,.string a1_1],.agg #[.string a2_0,.string a2_1],.agg #[.string a3_0,.string a3_1]] rfl (by (try simp only [sM,sC,sN]);first|done|rfl|(simp only [List.length_drop,List.length_take];rfl)) ?_;(with_reducible refine (spec_l06Three.calls k a0_0 a0_1 a1_0 a1_1 a2_0 a2_1 a3_0 a3_1 t208 _ A5.out).mono ?_);rintro e w50 ⟨rfl,hb⟩;refine ⟨_,rfl,?_⟩;replace BK204:=kb BK204 hb;replace BK205:=kb BK205 hb;replace BK206:=kb BK206 hb;replace BK207:=kb BK207 hb;replace HB:=bs HB hb;(try clear hb);have⟨a0,a1,b0,b1⟩:=q2f BK204;have⟨a0,a1,b0,b1⟩:=q2f BK205;have⟨a0,a1,b0,b1⟩:=q2f BK206;have⟨a0,a1,b0,b1⟩:=q2f BK207)|((with_reducible refine gate_callee (f:=13) rfl ?_);refine goesL_ (some 27) rfl rfl Try.func13 (by kernel_rfl) rfl #[.agg #[.string a0_0,.string a0_1],.agg #[.string a1_0,.string a1_1,.string a2_0,.string a2_1,.string a3_0,.string a3_1]] rfl (by (try simp only [sM,sC,sN]);first|done|rfl|(simp only [List.length_drop,List.length_take];rfl)) ?_;(with_reducible refine (spec_l06Middle.calls k a0_0 a0_1 a1_0 a1_1 a2_0 a2_1 a3_0 a3_1 t209 t210 false _ A7.out).mono ?_);rintro e w55 ⟨rfl,hb⟩;refine ⟨_,rfl,?_⟩;replace BK204:=kb BK204 hb;replace BK205:=kb BK205 hb;replace BK206:=kb BK206 hb;replace BK207:=kb BK207 hb;replace HB:=bs HB hb;(try clear hb))|((with_reducible refine gate_dst (N:=11) rfl ?_);refine box_event ?hg (N:=11) ?hd (cs:=#[.string ⟨#[]⟩,.string ⟨#[]⟩]) (t:=27) ?hr ?_;(case hd=>rfl);(case hg=>rfl);(case hr=>first|(go_simp;done)|(go_simp;rfl));intro gb212 hg w56 hbox hb;have BK212:=aM (hbox);have GW212:=wl hg HB;have GE212:=wl hg HB;have NB204_212:=nl hg BK204;have NB212_204:=nr hg BK204;have NB205_212:=nl hg BK205;have NB212_205:=nr hg BK205;have NB206_212:=nl hg BK206;have NB212_206:=nr hg BK206;have NB207_212:=nl hg BK207;have NB212_207:=nr hg BK207;replace BK204:=kb BK204 hb;replace BK205:=kb BK205 hb;replace BK206:=kb BK206 hb;replace BK207:=kb BK207 hb;replace HB:=bs HB hb;clear hb hbox hg;have hnb57:=NB212_204.out;have hnc57:=NB204_212.out;have hnb58:=NB212_205.out;have hnc58:=NB205_212.out;have hnb59:=NB212_206.out;have hnc59:=NB206_212.out;have hnb60:=NB212_207.out;have hnc60:=NB207_212.out;have⟨a0,a1,b0,b1⟩:=q2f BK212))
   go_ret2
   exact ⟨by first|rfl|(simp [errW_none,errW_some] <;> rfl)|(simp [*,errW_none,errW_some] <;> rfl),by first|exact bb HB|exact bg HB GE204|exact bg HB GE205|exact bg HB GE206|exact bg HB GE207|exact bg HB GE212⟩
 ·rw [if_neg c6] at H
  have c6b0:(t208 == 0) = false:=beq_eq_false_iff_ne.mpr c6
  have c6b1:(t208 != 0) = true:=bne_iff_ne.mpr c6
  simp only [Option.some.injEq,Prod.mk.injEq] at H
  obtain ⟨rfl,rfl⟩:=H
  go_enter Try.func6,Try.ntmps6
  go_wp2_with (first|((with_reducible refine gate_dst (N:=4) rfl ?_);refine box_event ?hg (N:=4) ?hd (cs:=#[.string a0_0,.string a0_1]) (t:=27) ?hr ?_;(case hd=>rfl);(case hg=>rfl);(case hr=>first|(go_simp;done)|(go_simp;rfl));intro gb204 hg w62 hbox hb;have BK204:=aM (hbox);have GW204:=wl hg HB;have GE204:=wl hg HB;replace HB:=bs HB hb;clear hb hbox hg)|((with_reducible refine gate_dst (N:=5) rfl ?_);refine box_event ?hg (N:=5) ?hd (cs:=#[.string a1_0,.string a1_1]) (t:=27) ?hr ?_;(case hd=>rfl);(case hg=>rfl);(case hr=>first|(go_simp;done)|(go_simp;rfl));intro gb205 hg w63 hbox hb;have BK205:=aM (hbox);have GW205:=wl hg HB;have GE205:=wl hg HB;have NB204_205:=nl hg BK204;have NB205_204:=nr hg BK204;replace BK204:=kb BK204 hb;replace HB:=bs HB hb;clear hb hbox hg)|((with_reducible refine gate_dst (N:=6) rfl ?_);refine box_event ?hg (N:=6) ?hd (cs:=#[.string a2_0,.string a2_1]) (t:=27) ?hr ?_;(case hd=>rfl);(case hg=>rfl);(case hr=>first|(go_simp;done)|(go_simp;rfl));intro gb206 hg w64 hbox hb;have BK206:=aM (hbox);have GW206:=wl hg HB;have GE206:=wl hg HB;have NB204_206:=nl hg BK204;have NB206_204:=nr hg BK204;have NB205_206:=nl hg BK205;have NB206_205:=nr hg BK205;replace BK204:=kb BK204 hb;replace BK205:=kb BK205 hb;replace HB:=bs HB hb;clear hb hbox hg)|((with_reducible refine gate_dst (N:=7) rfl ?_);refine box_event ?hg (N:=7) ?hd (cs:=#[.string a3_0,.string a3_1]) (t:=27) ?hr ?_;(case hd=>rfl);(case hg=>rfl);(case hr=>first|(go_simp;done)|(go_simp;rfl));intro gb207 hg w65 hbox hb;have BK207:=aM (hbox);have GW207:=wl hg HB;have GE207:=wl hg HB;have NB204_207:=nl hg BK204;have NB207_204:=nr hg BK204;have NB205_207:=nl hg BK205;have NB207_205:=nr hg BK205;have NB206_207:=nl hg BK206;have NB207_206:=nr hg BK206;replace BK204:=kb BK204 hb;replace BK205:=kb BK205 hb;replace BK206:=kb BK206 hb;replace HB:=bs HB hb;clear hb hbox hg;have hnb66:=NB204_205.out;have hnc66:=NB205_204.out;have hnb67:=NB204_206.out;have hnc67:=NB206_204.out;have hnb68:=NB204_207.out;have hnc68:=NB207_204.out;have⟨a0,a1,b0,b1⟩:=q2f BK204;have hnb70:=NB205_206.out;have hnc70:=NB206_205.out;have hnb71:=NB205_207.out;have hnc71:=NB207_205.out;have⟨a0,a1,b0,b1⟩:=q2f BK205;have hnb73:=NB206_207.out;have hnc73:=NB207_206.out;have⟨a0,a1,b0,b1⟩:=q2f BK206;have⟨a0,a1,b0,b1⟩:=q2f BK207)|((with_reducible refine gate_callee (f:=12) rfl ?_);refine goesL_ (some 17) rfl rfl Try.func12 (by kernel_rfl) rfl #[.agg #[.string a0_0,.string a0_1],.agg #[.string a1_0,.string a1_1],.agg #[.string a2_0,.string a2_1],.agg #[.string a3_0,.string a3_1]] rfl (by (try simp only [sM,sC,sN]);first|done|rfl|(simp only [List.length_drop,List.length_take];rfl)) ?_;(with_reducible refine (spec_l06Three.calls k a0_0 a0_1 a1_0 a1_1 a2_0 a2_1 a3_0 a3_1 t208 _ A5.out).mono ?_);rintro e w76 ⟨rfl,hb⟩;refine ⟨_,rfl,?_⟩;replace BK204:=kb BK204 hb;replace BK205:=kb BK205 hb;replace BK206:=kb BK206 hb;replace BK207:=kb BK207 hb;replace HB:=bs HB hb;(try clear hb)))
  go_ret2
  exact ⟨by first|rfl|(simp [errW_none,errW_some] <;> rfl)|(simp [*,errW_none,errW_some] <;> rfl),bb HB⟩
end Go.Proofs.Ytbiehbmojbmnoaa.Q
end
section
namespace Go.Proofs.Ytbiehbmojbmnoaa.Q
open Go.Proofs.YtbiehbmojbmnoaaW.Ext
open Go.RowKit Go.Proofs.YtbiehbmojbmnoaaW.PrintWords Go.Proofs.YtbiehbmojbmnoaaW.PrintLast Go.Proofs.YtbiehbmojbmnoaaW.PrintMore
attribute [local go_sem] max2_int min2_int max_two min_two max_three min_three max_four min_four   -- for this text's walks alone
set_option linter.unusedVariables false
set_option linter.unusedSimpArgs false
def laws_toSequence.f (a0_0:ByteArray) (a0_1:ByteArray):Option (ByteArray × ByteArray):=some (a0_0,a0_1)
set_option maxHeartbeats 8000000 in
set_option maxRecDepth 100000 in
theorem laws_toSequence.calls (a0_0:ByteArray) (a0_1:ByteArray) (r1:ByteArray) (r2:ByteArray) (w:World) (h:laws_toSequence.f a0_0 a0_1 = some (r1,r2)) :
  Calls Try.prog 7 #[.agg #[.string a0_0,.string a0_1]] w fun e w'=>e = .returned (.agg #[.string r1,.string r2]) ∧ Below w.heap.size w w':=by
 have hu23:=Try.underlying23
 have hu27:=Try.underlying27
 have HB:=aM (Below.refl w.heap.size w)
 have H:(some (a0_0,a0_1)) = some (r1,r2):=h
 clear h
 simp only [Option.some.injEq,Prod.mk.injEq] at H
 obtain ⟨rfl,rfl⟩:=H
 go_enter Try.func7,Try.ntmps7
 go_wp2_with (first|((with_reducible refine gate_dst (N:=1) rfl ?_);refine box_event ?hg (N:=1) ?hd (cs:=#[.string a0_0,.string a0_1]) (t:=23) ?hr ?_;(case hd=>rfl);(case hg=>rfl);(case hr=>first|(go_simp;done)|(go_simp;rfl));intro gb213 hg w2 hbox hb;have BK213:=aM (hbox);have GW213:=wl hg HB;have GE213:=wl hg HB;replace HB:=bs HB hb;clear hb hbox hg)|((with_reducible refine gate_dst (N:=2) rfl ?_);refine box_event ?hg (N:=2) ?hd (cs:=#[.string ⟨#[]⟩,.string ⟨#[]⟩]) (t:=27) ?hr ?_;(case hd=>rfl);(case hg=>rfl);(case hr=>first|(go_simp;done)|(go_simp;rfl));intro gb214 hg w3 hbox hb;have BK214:=aM (hbox);have GW214:=wl hg HB;have GE214:=wl hg HB;have NB213_214:=nl hg BK213;have NB214_213:=nr hg BK213;replace BK213:=kb BK213 hb;replace HB:=bs HB hb;clear hb hbox hg)|((with_reducible refine gate_dst (N:=3) rfl ?_);refine box_event ?hg (N:=3) ?hd (cs:=#[.string ⟨#[]⟩,.string ⟨#[]⟩]) (t:=27) ?hr ?_;(case hd=>rfl);(case hg=>rfl);(case hr=>first|(go_simp;done)|(go_simp;rfl));intro gb215 hg w4 hbox hb;have BK215:=aM (hbox);have GW215:=wl hg HB;have GE215:=wl hg HB;have NB213_215:=nl hg BK213;have NB215_213:=nr hg BK213;have NB214_215:=nl hg BK214;have NB215_214:=nr hg BK214;replace BK213:=kb BK213 hb;replace BK214:=kb BK214 hb;replace HB:=bs HB hb;clear hb hbox hg;have hnb5:=NB213_214.out;have hnc5:=NB214_213.out;have hnb6:=NB213_215.out;have hnc6:=NB215_213.out;have⟨a0,a1,b0,b1⟩:=q2f BK213;have hnb8:=NB215_214.out;have hnc8:=NB214_215.out;have⟨a0,a1,b0,b1⟩:=q2f BK215;have⟨a0,a1,b0,b1⟩:=q2f BK214))
 refine bodyPost_ret (results_cell_row rfl _ _ gb214 27 #[.string a0_0,.string a0_1] (0,0) _ rfl (by (with_reducible repeat (first|apply yN|apply yD|apply yA));refine blk_put (cs:=#[.string a0_0,.string ⟨#[]⟩]) ?_ 1 _ rfl;(with_reducible repeat (first|apply yN|apply yD|apply yA));refine blk_put (cs:=#[.string ⟨#[]⟩,.string ⟨#[]⟩]) ?_ 0 _ rfl;(with_reducible repeat (first|apply yN|apply yD|apply yA));refine blk_far ?_ NB214_215.out _;(with_reducible repeat (first|apply yN|apply yD|apply yA));refine blk_far ?_ NB214_215.out _;(with_reducible repeat (first|apply yN|apply yD|apply yA));exact BK214.out) Try.underlying27 rfl (by kernel_rfl)) rfl ?_
 exact ⟨by first|rfl|(simp [errW_none,errW_some] <;> rfl)|(simp [*,errW_none,errW_some] <;> rfl),by repeat (first|(with_reducible first|exact HB.out|apply zA|apply zN|apply zD|refine zS ?_ GE213.out|refine zS ?_ GE214.out|refine zS ?_ GE215.out)|exact HB.out)⟩
def strings_Repeat.f (a0:ByteArray) (a1:Int):Option ByteArray:=if 0 ≤ a1 ∧ a1 ≤ 9223372036854775807 ∧ a0.size * a1.toNat ≤ 8192 then some (Go.Proofs.Ytbiehbmojbmnoaa.Rep.val a0 a1) else none
theorem strings_Repeat.calls (a0:ByteArray) (a1:Int) (r:ByteArray) (w:World) (h:strings_Repeat.f a0 a1 = some r) :
  Calls Try.prog 45 #[.string a0,.int .i64 a1] w fun e w'=>e = .returned (.string r) ∧ Below w.heap.size w w':=by
 unfold strings_Repeat.f at h
 split at h
 ·rename_i hc
  obtain rfl:=Option.some.inj h
  exact Go.Proofs.Ytbiehbmojbmnoaa.Rep.calls a0 a1 w hc.1 hc.2.1 hc.2.2
 ·cases h
def impl_root.l0:Nat → ByteArray → Int → Option (ByteArray)
 | 0,_,_=>none
 | k + 1,x0,x3=>if x3 = 0 then (none) else (if ((x0.size:Int) % x3) = 0 then (if 0 ≤ x3 then (if x3 ≤ (x0.size:Int) then ((strings_Repeat.f (x0.extract 0 (x3:Int).toNat) (wrap64 ((x0.size:Int) / x3))).bind fun t219=>(if t219.toList = x0.toList then (some (x0.extract 0 (x3:Int).toNat)) else (impl_root.l0 k x0 (wrap64 (x3 + 1))))) else (none)) else (none)) else (impl_root.l0 k x0 (wrap64 (x3 + 1))))
def impl_root.f (k:Nat) (a0:ByteArray):Option (ByteArray):=impl_root.l0 k a0 1
theorem impl_root.mono_l:∀ k,(∀ y0 y1,LeO (impl_root.l0 k y0 y1) (impl_root.l0 (k + 1) y0 y1))
 | 0=>fun _ _ r h=>by simp [impl_root.l0] at h
 | k + 1=>by
  have ih0:=impl_root.mono_l k
  ·intro y0 y1
   unfold impl_root.l0
   repeat' first
   | (with_reducible exact ih0 _ _)
   | (with_reducible exact LeO.refl _)
   | (with_reducible exact LeO.none _)
   | (with_reducible refine LeO.ite ?_ ?_)
   | (with_reducible refine LeO.bind ?_ (fun _=>?_))
   | exact ih0 _ _
   | exact LeO.none _
   | refine LeO.ite ?_ ?_
   | refine LeO.bind ?_ (fun _=>?_)
theorem impl_root.mono:∀ a0 k,LeO (impl_root.f k a0) (impl_root.f (k + 1) a0):=by
 intro a0 k
 have ih0:=impl_root.mono_l k
 unfold impl_root.f
 repeat' first
   | (with_reducible exact ih0 _ _)
   | (with_reducible exact LeO.refl _)
   | (with_reducible exact LeO.none _)
   | (with_reducible refine LeO.ite ?_ ?_)
   | (with_reducible refine LeO.bind ?_ (fun _=>?_))
   | exact ih0 _ _
   | exact LeO.none _
   | refine LeO.ite ?_ ?_
   | refine LeO.bind ?_ (fun _=>?_)
def impl_root.T2:Bool × List (List Nat × List Nat):=(true,[([],[]),([0],[0]),([],[]),([1,2],[1,2]),([3],[3]),([4],[4]),([5],[5]),([5],[5]),([6,7,5],[5,6,7]),([5],[5]),([9,5],[5,9]),([5],[5]),([10,11,5],[5,10,11]),([8,12,5,5],[5,8,12]),([5],[5]),([13,14,5],[5,13,14]),([5,15],[5,15])])
def impl_root.B2:List Nat:=[0,1,0,7,15,31,63,63,255,63,575,63,3647,8191,63,32767,65535]
theorem impl_root.tab2:rtab .any (opsOf Try.f36 2) = impl_root.T2:=by kernel_rfl
theorem impl_root.bits2:waitsOk impl_root.T2.2 impl_root.B2 = true:=by kernel_rfl
set_option maxHeartbeats 8000000 in
set_option maxRecDepth 100000 in
theorem impl_root.calls (k:Nat) (a0:ByteArray) (r:ByteArray) (w:World) (h:impl_root.f k a0 = some r) :
  Calls Try.prog 36 #[.string a0] w fun e w'=>e = .returned (.string r) ∧ Below w.heap.size w w':=by
 have HB:=aM (Below.refl w.heap.size w)
 have H:(impl_root.l0 k a0 1) = some r:=h
 clear h
 have H':=aM H
 clear H
 go_enter Try.func36,Try.ntmps36
 go_wp2
 go_loopg [3] k (fun kq v3 w'=>∃ (x3_1:Int),v3 = .int .i64 x3_1 ∧ Aside0 (impl_root.l0 kq a0 x3_1 = some r) ∧ Aside0 (kq ≤ k) ∧ Aside0 (Below w.heap.size w w'))
 case atStart=>exact ⟨(1),(by first|rfl|(simp;done)|(simp [*];done)),H',⟨Nat.le_refl _⟩,⟨bb HB⟩⟩
 case round =>
  clear H'
  obtain ⟨x3_1,rfl,HA,HK1,HB⟩:=hrel
  cases gk with
  | zero=>exact absurd HA.out (by simp [impl_root.l0])
  | succ k1 =>
   have H:=HA.out
   clear HA
   simp only [impl_root.l0] at H
   by_cases c2:x3_1 = 0
   ·rw [if_pos c2] at H
    exact absurd H (by simp)
   ·rw [if_neg c2] at H
    have c2b0:(x3_1 == 0) = false:=beq_eq_false_iff_ne.mpr c2
    have c2b1:(x3_1 != 0) = true:=bne_iff_ne.mpr c2
    have c3t:=Int.tmod_eq_emod_of_nonneg (a:=(a0.size:Int)) (b:=x3_1) (by omega)
    by_cases c3:((a0.size:Int) % x3_1) = 0
    ·rw [if_pos c3] at H
     have c3b0:(((a0.size:Int) % x3_1) == 0) = true:=beq_iff_eq.mpr c3
     have c3b1:(((a0.size:Int) % x3_1) != 0) = false:=bne_eq_false_iff_eq.mpr c3
     try (have c3u:=c3b0;rw [c3t] at c3u;have c3v:=c3b1;rw [c3t] at c3v)
     clear c3
     by_cases c4:0 ≤ x3_1
     ·rw [if_pos c4] at H
      have c4b0:=eq_true c4
      have c4b1:decide (0 ≤ x3_1) = true:=decide_eq_true c4
      clear c4
      by_cases c5:x3_1 ≤ (a0.size:Int)
      ·rw [if_pos c5] at H
       have c5b0:=eq_true c5
       have c5b1:decide (x3_1 ≤ (a0.size:Int)) = true:=decide_eq_true c5
       clear c5
       replace H:=Option.bind_eq_some_iff.mp H
       obtain ⟨t219,A60,H⟩:=H
       replace H:(if t219.toList = a0.toList then (some (a0.extract 0 (x3_1:Int).toNat)) else (impl_root.l0 k1 a0 (wrap64 (x3_1 + 1)))) = some r:=H;have A6:=aM A60
       clear A60
       by_cases c7:t219.toList = a0.toList
       ·rw [if_pos c7] at H
        have c7b0:(t219.toList == a0.toList) = true:=beq_iff_eq.mpr c7
        have c7b1:(t219.toList != a0.toList) = false:=bne_eq_false_iff_eq.mpr c7
        clear c7
        have c8b0:=eq_true (of_decide_eq_true (by first|(with_reducible assumption)|assumption):0 ≤ x3_1)
        have c9b0:=eq_true (of_decide_eq_true (by first|(with_reducible assumption)|assumption):x3_1 ≤ (a0.size:Int))
        obtain rfl:=Option.some.inj H
        try go_wp2
        replace HB:=aM (zD HB.out)
        refine start_ (n:=17) (S:=fun w'=>True) (ds:=[]) #[fF,fF,fF,fF,fF,fF,fF,fF,fF,fF,fF,fF,fF,fF,fF,fF,fF] (by kernel_rfl) rfl rfl trivial (fun hHeld=>?_);refine with_tabW impl_root.tab2 impl_root.bits2 (fun HT_ HW_=>?_)
        generalize wr.drew = w10 at HB hHeld ⊢
        refine pure_ (i:=0) (N:=some 4) (v:=?_) (a':=?_) #[tT,fF,fF,fF,fF,fF,fF,fF,fF,fF,fF,fF,fF,fF,fF,fF,fF] rfl rfl (any_of HT_.out (by kernel_rfl)) (fun _ _ _ h=>h) (Or.inl ⟨by rfl,?_⟩) ?_ ?_
        rotate_left
        ·intro w'
         go_simp
         with_reducible rfl
        rotate_left
        ·simp only [Act.put,sI,sZ,sS,i64_w,i32_w]
         rfl
        refine pure_ (i:=1) (N:=some 5) (v:=?_) (a':=?_) #[tT,tT,fF,fF,fF,fF,fF,fF,fF,fF,fF,fF,fF,fF,fF,fF,fF] rfl rfl (any_of HT_.out (by kernel_rfl)) (fun _ _ _ h=>h) (Or.inl ⟨by rfl,?_⟩) ?_ ?_
        rotate_left
        ·intro w'
         go_simp
         with_reducible rfl
        rotate_left
        ·simp only [Act.put,sI,sZ,sS,i64_w,i32_w]
         rfl
        refine pure_ (i:=2) (N:=some 6) (v:=?_) (a':=?_) #[tT,tT,tT,fF,fF,fF,fF,fF,fF,fF,fF,fF,fF,fF,fF,fF,fF] rfl rfl (any_of HT_.out (by kernel_rfl)) (fun _ _ _ h=>h) (Or.inl ⟨by rfl,?_⟩) ?_ ?_
        rotate_left
        ·intro w'
         go_simp
         with_reducible rfl
        rotate_left
        ·simp only [Act.put,sI,sZ,sS,i64_w,i32_w]
         rfl
        refine pure_ (i:=3) (N:=some 7) (v:=?_) (a':=?_) #[tT,tT,tT,tT,fF,fF,fF,fF,fF,fF,fF,fF,fF,fF,fF,fF,fF] rfl rfl (any_of HT_.out (by kernel_rfl)) (fun _ _ _ h=>h) (Or.inl ⟨by rfl,?_⟩) ?_ ?_
        rotate_left
        ·intro w'
         go_simp
         with_reducible rfl
        rotate_left
        ·simp only [Act.put,sI,sZ,sS,i64_w,i32_w]
         rfl
        refine pure_ (i:=4) (N:=some 8) (v:=?_) (a':=?_) #[tT,tT,tT,tT,tT,fF,fF,fF,fF,fF,fF,fF,fF,fF,fF,fF,fF] rfl rfl (any_of HT_.out (by kernel_rfl)) (fun _ _ _ h=>h) (Or.inl ⟨by rfl,?_⟩) ?_ ?_
        rotate_left
        ·intro w'
         go_simp
         with_reducible rfl
        rotate_left
        ·simp only [Act.put,sI,sZ,sS,i64_w,i32_w]
         rfl
        refine pure_ (i:=5) (N:=some 9) (v:=?_) (a':=?_) #[tT,tT,tT,tT,tT,tT,fF,fF,fF,fF,fF,fF,fF,fF,fF,fF,fF] rfl rfl (any_of HT_.out (by kernel_rfl)) (fun _ _ _ h=>h) (Or.inl ⟨by rfl,?_⟩) ?_ ?_
        rotate_left
        ·intro w'
         go_simp
         with_reducible rfl
        rotate_left
        ·simp only [Act.put,sI,sZ,sS,i64_w,i32_w]
         rfl
        refine pure_ (i:=6) (N:=some 10) (v:=?_) (a':=?_) #[tT,tT,tT,tT,tT,tT,tT,fF,fF,fF,fF,fF,fF,fF,fF,fF,fF] rfl rfl (any_of HT_.out (by kernel_rfl)) (fun _ _ _ h=>h) (Or.inl ⟨by rfl,?_⟩) ?_ ?_
        rotate_left
        ·intro w'
         go_simp
         with_reducible rfl
        rotate_left
        ·simp only [Act.put,sI,sZ,sS,i64_w,i32_w]
         rfl
        refine pure_ (i:=7) (N:=some 11) (v:=?_) (a':=?_) #[tT,tT,tT,tT,tT,tT,tT,tT,fF,fF,fF,fF,fF,fF,fF,fF,fF] rfl rfl (any_of HT_.out (by kernel_rfl)) (fun _ _ _ h=>h) (Or.inl ⟨by rfl,?_⟩) ?_ ?_
        rotate_left
        ·intro w'
         go_simp
         with_reducible rfl
        rotate_left
        ·simp only [Act.put,sI,sZ,sS,i64_w,i32_w]
         rfl
        refine pure_ (i:=8) (N:=some 12) (v:=?_) (a':=?_) #[tT,tT,tT,tT,tT,tT,tT,tT,tT,fF,fF,fF,fF,fF,fF,fF,fF] rfl rfl (any_of HT_.out (by kernel_rfl)) (fun _ _ _ h=>h) (Or.inl ⟨by rfl,?_⟩) ?_ ?_
        rotate_left
        ·intro w'
         go_simp
         with_reducible rfl
        rotate_left
        ·simp only [Act.put,sI,sZ,sS,i64_w,i32_w]
         rfl
        refine pure_ (i:=9) (N:=some 13) (v:=?_) (a':=?_) #[tT,tT,tT,tT,tT,tT,tT,tT,tT,tT,fF,fF,fF,fF,fF,fF,fF] rfl rfl (any_of HT_.out (by kernel_rfl)) (fun _ _ _ h=>h) (Or.inl ⟨by rfl,?_⟩) ?_ ?_
        rotate_left
        ·intro w'
         go_simp
         with_reducible rfl
        rotate_left
        ·simp only [Act.put,sI,sZ,sS,i64_w,i32_w]
         rfl
        refine pure_ (i:=10) (N:=some 14) (v:=?_) (a':=?_) #[tT,tT,tT,tT,tT,tT,tT,tT,tT,tT,tT,fF,fF,fF,fF,fF,fF] rfl rfl (any_of HT_.out (by kernel_rfl)) (fun _ _ _ h=>h) (Or.inl ⟨by rfl,?_⟩) ?_ ?_
        rotate_left
        ·intro w'
         go_simp
         with_reducible rfl
        rotate_left
        ·simp only [Act.put,sI,sZ,sS,i64_w,i32_w]
         rfl
        refine pure_ (i:=11) (N:=some 15) (v:=?_) (a':=?_) #[tT,tT,tT,tT,tT,tT,tT,tT,tT,tT,tT,tT,fF,fF,fF,fF,fF] rfl rfl (any_of HT_.out (by kernel_rfl)) (fun _ _ _ h=>h) (Or.inl ⟨by rfl,?_⟩) ?_ ?_
        rotate_left
        ·intro w'
         go_simp
         with_reducible rfl
        rotate_left
        ·simp only [Act.put,sI,sZ,sS,i64_w,i32_w]
         rfl
        refine pure_ (i:=12) (N:=some 16) (v:=?_) (a':=?_) #[tT,tT,tT,tT,tT,tT,tT,tT,tT,tT,tT,tT,tT,fF,fF,fF,fF] rfl rfl (any_of HT_.out (by kernel_rfl)) (fun _ _ _ h=>h) (Or.inl ⟨by rfl,?_⟩) ?_ ?_
        rotate_left
        ·intro w'
         go_simp
         with_reducible rfl
        rotate_left
        ·simp only [Act.put,sI,sZ,sS,i64_w,i32_w]
         rfl
        refine pure_ (i:=14) (N:=some 18) (v:=?_) (a':=?_) #[tT,tT,tT,tT,tT,tT,tT,tT,tT,tT,tT,tT,tT,fF,tT,fF,fF] rfl rfl (any_of HT_.out (by kernel_rfl)) (fun _ _ _ h=>h) (Or.inl ⟨by rfl,?_⟩) ?_ ?_
        rotate_left
        ·intro w'
         go_simp
         with_reducible rfl
        rotate_left
        ·simp only [Act.put,sI,sZ,sS,i64_w,i32_w]
         rfl
        refine one_ (i:=13) (N:=some 17) #[tT,tT,tT,tT,tT,tT,tT,tT,tT,tT,tT,tT,tT,tT,tT,fF,fF] rfl rfl (one_of HT_.out (by kernel_rfl)) (by decide) (fun K hK=>?_)
        refine goes_ Try.func45 (by kernel_rfl) rfl #[.string (a0.extract 0 (x3_1:Int).toNat),.int .i64 (wrap64 ((a0.size:Int) / x3_1))] (by rfl) rfl rfl (by (try simp only [sM,sC,sN]);first|done|rfl|(simp only [List.length_drop,List.length_take];rfl)) ?_
        with_reducible refine (strings_Repeat.calls (a0.extract 0 (x3_1:Int).toNat) (wrap64 ((a0.size:Int) / x3_1)) t219 _ A6.out).mono ?_
        rintro e w11 ⟨rfl,hb⟩
        refine ⟨_,rfl,?_⟩
        replace HB:=bs HB hb;(try clear hb)
        refine hK.out _ _ trivial (fun hHeld=>?_)
        clear hK K
        refine norm_ (a':=?_) ?_ ?_
        rotate_left
        ·show Act.put _ (some 17) _ = _
         simp only [Act.put,sI,sZ,sS,i64_w,i32_w]
         rfl
        refine pure_ (i:=15) (N:=some 19) (v:=?_) (a':=?_) #[tT,tT,tT,tT,tT,tT,tT,tT,tT,tT,tT,tT,tT,tT,tT,tT,fF] rfl rfl (any_of HT_.out (by kernel_rfl)) (fun _ _ _ h=>h) (Or.inl ⟨by rfl,?_⟩) ?_ ?_
        rotate_left
        ·intro w'
         go_simp
         with_reducible rfl
        rotate_left
        ·simp only [Act.put,sI,sZ,sS,i64_w,i32_w]
         rfl
        refine pure_ (i:=16) (N:=some 20) (v:=?_) (a':=?_) #[tT,tT,tT,tT,tT,tT,tT,tT,tT,tT,tT,tT,tT,tT,tT,tT,tT] rfl rfl (any_of HT_.out (by kernel_rfl)) (fun _ _ _ h=>h) (Or.inl ⟨by rfl,?_⟩) ?_ ?_
        rotate_left
        ·intro w'
         go_simp
         with_reducible rfl
        rotate_left
        ·simp only [Act.put,sI,sZ,sS,i64_w,i32_w]
         rfl
        refine done_ (done_of HT_.out (by kernel_rfl)) ?_
        try go_wp2
        go_ret
        exact ⟨by first|rfl|(simp [errW_none,errW_some] <;> rfl)|(simp [*,errW_none,errW_some] <;> rfl),bb HB⟩
       ·rw [if_neg c7] at H
        have c7b0:(t219.toList == a0.toList) = false:=beq_eq_false_iff_ne.mpr c7
        have c7b1:(t219.toList != a0.toList) = true:=bne_iff_ne.mpr c7
        have H':=aM H
        clear H
        try go_wp2
        replace HB:=aM (zD HB.out)
        refine start_ (n:=17) (S:=fun w'=>True) (ds:=[]) #[fF,fF,fF,fF,fF,fF,fF,fF,fF,fF,fF,fF,fF,fF,fF,fF,fF] (by kernel_rfl) rfl rfl trivial (fun hHeld=>?_);refine with_tabW impl_root.tab2 impl_root.bits2 (fun HT_ HW_=>?_)
        generalize wr.drew = w12 at HB hHeld ⊢
        refine pure_ (i:=0) (N:=some 4) (v:=?_) (a':=?_) #[tT,fF,fF,fF,fF,fF,fF,fF,fF,fF,fF,fF,fF,fF,fF,fF,fF] rfl rfl (any_of HT_.out (by kernel_rfl)) (fun _ _ _ h=>h) (Or.inl ⟨by rfl,?_⟩) ?_ ?_
        rotate_left
        ·intro w'
         go_simp
         with_reducible rfl
        rotate_left
        ·simp only [Act.put,sI,sZ,sS,i64_w,i32_w]
         rfl
        refine pure_ (i:=1) (N:=some 5) (v:=?_) (a':=?_) #[tT,tT,fF,fF,fF,fF,fF,fF,fF,fF,fF,fF,fF,fF,fF,fF,fF] rfl rfl (any_of HT_.out (by kernel_rfl)) (fun _ _ _ h=>h) (Or.inl ⟨by rfl,?_⟩) ?_ ?_
        rotate_left
        ·intro w'
         go_simp
         with_reducible rfl
        rotate_left
        ·simp only [Act.put,sI,sZ,sS,i64_w,i32_w]
         rfl
        refine pure_ (i:=2) (N:=some 6) (v:=?_) (a':=?_) #[tT,tT,tT,fF,fF,fF,fF,fF,fF,fF,fF,fF,fF,fF,fF,fF,fF] rfl rfl (any_of HT_.out (by kernel_rfl)) (fun _ _ _ h=>h) (Or.inl ⟨by rfl,?_⟩) ?_ ?_
        rotate_left
        ·intro w'
         go_simp
         with_reducible rfl
        rotate_left
        ·simp only [Act.put,sI,sZ,sS,i64_w,i32_w]
         rfl
        refine pure_ (i:=3) (N:=some 7) (v:=?_) (a':=?_) #[tT,tT,tT,tT,fF,fF,fF,fF,fF,fF,fF,fF,fF,fF,fF,fF,fF] rfl rfl (any_of HT_.out (by kernel_rfl)) (fun _ _ _ h=>h) (Or.inl ⟨by rfl,?_⟩) ?_ ?_
        rotate_left
        ·intro w'
         go_simp
         with_reducible rfl
        rotate_left
        ·simp only [Act.put,sI,sZ,sS,i64_w,i32_w]
         rfl
        refine pure_ (i:=4) (N:=some 8) (v:=?_) (a':=?_) #[tT,tT,tT,tT,tT,fF,fF,fF,fF,fF,fF,fF,fF,fF,fF,fF,fF] rfl rfl (any_of HT_.out (by kernel_rfl)) (fun _ _ _ h=>h) (Or.inl ⟨by rfl,?_⟩) ?_ ?_
        rotate_left
        ·intro w'
         go_simp
         with_reducible rfl
        rotate_left
        ·simp only [Act.put,sI,sZ,sS,i64_w,i32_w]
         rfl
        refine pure_ (i:=5) (N:=some 9) (v:=?_) (a':=?_) #[tT,tT,tT,tT,tT,tT,fF,fF,fF,fF,fF,fF,fF,fF,fF,fF,fF] rfl rfl (any_of HT_.out (by kernel_rfl)) (fun _ _ _ h=>h) (Or.inl ⟨by rfl,?_⟩) ?_ ?_
        rotate_left
        ·intro w'
         go_simp
         with_reducible rfl
        rotate_left
        ·simp only [Act.put,sI,sZ,sS,i64_w,i32_w]
         rfl
        refine pure_ (i:=6) (N:=some 10) (v:=?_) (a':=?_) #[tT,tT,tT,tT,tT,tT,tT,fF,fF,fF,fF,fF,fF,fF,fF,fF,fF] rfl rfl (any_of HT_.out (by kernel_rfl)) (fun _ _ _ h=>h) (Or.inl ⟨by rfl,?_⟩) ?_ ?_
        rotate_left
        ·intro w'
         go_simp
         with_reducible rfl
        rotate_left
        ·simp only [Act.put,sI,sZ,sS,i64_w,i32_w]
         rfl
        refine pure_ (i:=7) (N:=some 11) (v:=?_) (a':=?_) #[tT,tT,tT,tT,tT,tT,tT,tT,fF,fF,fF,fF,fF,fF,fF,fF,fF] rfl rfl (any_of HT_.out (by kernel_rfl)) (fun _ _ _ h=>h) (Or.inl ⟨by rfl,?_⟩) ?_ ?_
        rotate_left
        ·intro w'
         go_simp
         with_reducible rfl
        rotate_left
        ·simp only [Act.put,sI,sZ,sS,i64_w,i32_w]
         rfl
        refine pure_ (i:=8) (N:=some 12) (v:=?_) (a':=?_) #[tT,tT,tT,tT,tT,tT,tT,tT,tT,fF,fF,fF,fF,fF,fF,fF,fF] rfl rfl (any_of HT_.out (by kernel_rfl)) (fun _ _ _ h=>h) (Or.inl ⟨by rfl,?_⟩) ?_ ?_
        rotate_left
        ·intro w'
         go_simp
         with_reducible rfl
        rotate_left
        ·simp only [Act.put,sI,sZ,sS,i64_w,i32_w]
         rfl
        refine pure_ (i:=9) (N:=some 13) (v:=?_) (a':=?_) #[tT,tT,tT,tT,tT,tT,tT,tT,tT,tT,fF,fF,fF,fF,fF,fF,fF] rfl rfl (any_of HT_.out (by kernel_rfl)) (fun _ _ _ h=>h) (Or.inl ⟨by rfl,?_⟩) ?_ ?_
        rotate_left
        ·intro w'
         go_simp
         with_reducible rfl
        rotate_left
        ·simp only [Act.put,sI,sZ,sS,i64_w,i32_w]
         rfl
        refine pure_ (i:=10) (N:=some 14) (v:=?_) (a':=?_) #[tT,tT,tT,tT,tT,tT,tT,tT,tT,tT,tT,fF,fF,fF,fF,fF,fF] rfl rfl (any_of HT_.out (by kernel_rfl)) (fun _ _ _ h=>h) (Or.inl ⟨by rfl,?_⟩) ?_ ?_
        rotate_left
        ·intro w'
         go_simp
         with_reducible rfl
        rotate_left
        ·simp only [Act.put,sI,sZ,sS,i64_w,i32_w]
         rfl
        refine pure_ (i:=11) (N:=some 15) (v:=?_) (a':=?_) #[tT,tT,tT,tT,tT,tT,tT,tT,tT,tT,tT,tT,fF,fF,fF,fF,fF] rfl rfl (any_of HT_.out (by kernel_rfl)) (fun _ _ _ h=>h) (Or.inl ⟨by rfl,?_⟩) ?_ ?_
        rotate_left
        ·intro w'
         go_simp
         with_reducible rfl
        rotate_left
        ·simp only [Act.put,sI,sZ,sS,i64_w,i32_w]
         rfl
        refine pure_ (i:=12) (N:=some 16) (v:=?_) (a':=?_) #[tT,tT,tT,tT,tT,tT,tT,tT,tT,tT,tT,tT,tT,fF,fF,fF,fF] rfl rfl (any_of HT_.out (by kernel_rfl)) (fun _ _ _ h=>h) (Or.inl ⟨by rfl,?_⟩) ?_ ?_
        rotate_left
        ·intro w'
         go_simp
         with_reducible rfl
        rotate_left
        ·simp only [Act.put,sI,sZ,sS,i64_w,i32_w]
         rfl
        refine pure_ (i:=14) (N:=some 18) (v:=?_) (a':=?_) #[tT,tT,tT,tT,tT,tT,tT,tT,tT,tT,tT,tT,tT,fF,tT,fF,fF] rfl rfl (any_of HT_.out (by kernel_rfl)) (fun _ _ _ h=>h) (Or.inl ⟨by rfl,?_⟩) ?_ ?_
        rotate_left
        ·intro w'
         go_simp
         with_reducible rfl
        rotate_left
        ·simp only [Act.put,sI,sZ,sS,i64_w,i32_w]
         rfl
        refine one_ (i:=13) (N:=some 17) #[tT,tT,tT,tT,tT,tT,tT,tT,tT,tT,tT,tT,tT,tT,tT,fF,fF] rfl rfl (one_of HT_.out (by kernel_rfl)) (by decide) (fun K hK=>?_)
        refine goes_ Try.func45 (by kernel_rfl) rfl #[.string (a0.extract 0 (x3_1:Int).toNat),.int .i64 (wrap64 ((a0.size:Int) / x3_1))] (by rfl) rfl rfl (by (try simp only [sM,sC,sN]);first|done|rfl|(simp only [List.length_drop,List.length_take];rfl)) ?_
        with_reducible refine (strings_Repeat.calls (a0.extract 0 (x3_1:Int).toNat) (wrap64 ((a0.size:Int) / x3_1)) t219 _ A6.out).mono ?_
        rintro e w13 ⟨rfl,hb⟩
        refine ⟨_,rfl,?_⟩
        replace HB:=bs HB hb;(try clear hb)
        refine hK.out _ _ trivial (fun hHeld=>?_)
        clear hK K
        refine norm_ (a':=?_) ?_ ?_
        rotate_left
        ·show Act.put _ (some 17) _ = _
         simp only [Act.put,sI,sZ,sS,i64_w,i32_w]
         rfl
        refine pure_ (i:=15) (N:=some 19) (v:=?_) (a':=?_) #[tT,tT,tT,tT,tT,tT,tT,tT,tT,tT,tT,tT,tT,tT,tT,tT,fF] rfl rfl (any_of HT_.out (by kernel_rfl)) (fun _ _ _ h=>h) (Or.inl ⟨by rfl,?_⟩) ?_ ?_
        rotate_left
        ·intro w'
         go_simp
         with_reducible rfl
        rotate_left
        ·simp only [Act.put,sI,sZ,sS,i64_w,i32_w]
         rfl
        refine pure_ (i:=16) (N:=some 20) (v:=?_) (a':=?_) #[tT,tT,tT,tT,tT,tT,tT,tT,tT,tT,tT,tT,tT,tT,tT,tT,tT] rfl rfl (any_of HT_.out (by kernel_rfl)) (fun _ _ _ h=>h) (Or.inl ⟨by rfl,?_⟩) ?_ ?_
        rotate_left
        ·intro w'
         go_simp
         with_reducible rfl
        rotate_left
        ·simp only [Act.put,sI,sZ,sS,i64_w,i32_w]
         rfl
        refine done_ (done_of HT_.out (by kernel_rfl)) ?_
        try go_wp2
        go_roundg k1
        case measure=>have:=HK1.out;omega
        case rel=>exact ⟨(wrap64 (x3_1 + 1)),(by first|rfl|(simp;done)|(simp [*];done)),H',⟨by have:=HK1.out;omega⟩,⟨bb HB⟩⟩
      ·rw [if_neg c5] at H
       exact absurd H (by simp)
     ·rw [if_neg c4] at H
      exact absurd H (by simp)
    ·rw [if_neg c3] at H
     have c3b0:(((a0.size:Int) % x3_1) == 0) = false:=beq_eq_false_iff_ne.mpr c3
     have c3b1:(((a0.size:Int) % x3_1) != 0) = true:=bne_iff_ne.mpr c3
     try (have c3u:=c3b0;rw [c3t] at c3u;have c3v:=c3b1;rw [c3t] at c3v)
     have H':=aM H
     clear H
     try go_wp2
     replace HB:=aM (zD HB.out)
     refine start_ (n:=17) (S:=fun w'=>True) (ds:=[]) #[fF,fF,fF,fF,fF,fF,fF,fF,fF,fF,fF,fF,fF,fF,fF,fF,fF] (by kernel_rfl) rfl rfl trivial (fun hHeld=>?_);refine with_tabW impl_root.tab2 impl_root.bits2 (fun HT_ HW_=>?_)
     generalize wr.drew = w14 at HB hHeld ⊢
     refine pure_ (i:=0) (N:=some 4) (v:=?_) (a':=?_) #[tT,fF,fF,fF,fF,fF,fF,fF,fF,fF,fF,fF,fF,fF,fF,fF,fF] rfl rfl (any_of HT_.out (by kernel_rfl)) (fun _ _ _ h=>h) (Or.inl ⟨by rfl,?_⟩) ?_ ?_
     rotate_left
     ·intro w'
      go_simp
      with_reducible rfl
     rotate_left
     ·simp only [Act.put,sI,sZ,sS,i64_w,i32_w]
      rfl
     refine pure_ (i:=1) (N:=some 5) (v:=?_) (a':=?_) #[tT,tT,fF,fF,fF,fF,fF,fF,fF,fF,fF,fF,fF,fF,fF,fF,fF] rfl rfl (any_of HT_.out (by kernel_rfl)) (fun _ _ _ h=>h) (Or.inl ⟨by rfl,?_⟩) ?_ ?_
     rotate_left
     ·intro w'
      go_simp
      with_reducible rfl
     rotate_left
     ·simp only [Act.put,sI,sZ,sS,i64_w,i32_w]
      rfl
     refine pure_ (i:=2) (N:=some 6) (v:=?_) (a':=?_) #[tT,tT,tT,fF,fF,fF,fF,fF,fF,fF,fF,fF,fF,fF,fF,fF,fF] rfl rfl (any_of HT_.out (by kernel_rfl)) (fun _ _ _ h=>h) (Or.inl ⟨by rfl,?_⟩) ?_ ?_
     rotate_left
     ·intro w'
      go_simp
      with_reducible rfl
     rotate_left
     ·simp only [Act.put,sI,sZ,sS,i64_w,i32_w]
      rfl
     refine pure_ (i:=3) (N:=some 7) (v:=?_) (a':=?_) #[tT,tT,tT,tT,fF,fF,fF,fF,fF,fF,fF,fF,fF,fF,fF,fF,fF] rfl rfl (any_of HT_.out (by kernel_rfl)) (fun _ _ _ h=>h) (Or.inl ⟨by rfl,?_⟩) ?_ ?_
     rotate_left
     ·intro w'
      go_simp
      with_reducible rfl
     rotate_left
     ·simp only [Act.put,sI,sZ,sS,i64_w,i32_w]
      rfl
     refine pure_ (i:=4) (N:=some 8) (v:=?_) (a':=?_) #[tT,tT,tT,tT,tT,fF,fF,fF,fF,fF,fF,fF,fF,fF,fF,fF,fF] rfl rfl (any_of HT_.out (by kernel_rfl)) (fun _ _ _ h=>h) (Or.inl ⟨by rfl,?_⟩) ?_ ?_
     rotate_left
     ·intro w'
      go_simp
      with_reducible rfl
     rotate_left
     ·simp only [Act.put,sI,sZ,sS,i64_w,i32_w]
      rfl
     refine pure_ (i:=5) (N:=some 9) (v:=?_) (a':=?_) #[tT,tT,tT,tT,tT,tT,fF,fF,fF,fF,fF,fF,fF,fF,fF,fF,fF] rfl rfl (any_of HT_.out (by kernel_rfl)) (fun _ _ _ h=>h) (Or.inl ⟨by rfl,?_⟩) ?_ ?_
     rotate_left
     ·intro w'
      go_simp
      with_reducible rfl
     rotate_left
     ·simp only [Act.put,sI,sZ,sS,i64_w,i32_w]
      rfl
     refine pure_ (i:=6) (N:=some 10) (v:=undef) (a':=?_) #[tT,tT,tT,tT,tT,tT,tT,fF,fF,fF,fF,fF,fF,fF,fF,fF,fF] rfl rfl (any_of HT_.out (by kernel_rfl)) (fun _ _ _ h=>h) (Or.inr ⟨by rfl,rfl⟩) ?_ ?_
     rotate_left
     ·simp only [Act.put,sI,sZ,sS,i64_w,i32_w]
      rfl
     refine pure_ (i:=7) (N:=some 11) (v:=undef) (a':=?_) #[tT,tT,tT,tT,tT,tT,tT,tT,fF,fF,fF,fF,fF,fF,fF,fF,fF] rfl rfl (any_of HT_.out (by kernel_rfl)) (fun _ _ _ h=>h) (Or.inr ⟨by rfl,rfl⟩) ?_ ?_
     rotate_left
     ·simp only [Act.put,sI,sZ,sS,i64_w,i32_w]
      rfl
     refine pure_ (i:=8) (N:=some 12) (v:=undef) (a':=?_) #[tT,tT,tT,tT,tT,tT,tT,tT,tT,fF,fF,fF,fF,fF,fF,fF,fF] rfl rfl (any_of HT_.out (by kernel_rfl)) (fun _ _ _ h=>h) (Or.inr ⟨by rfl,rfl⟩) ?_ ?_
     rotate_left
     ·simp only [Act.put,sI,sZ,sS,i64_w,i32_w]
      rfl
     refine pure_ (i:=9) (N:=some 13) (v:=undef) (a':=?_) #[tT,tT,tT,tT,tT,tT,tT,tT,tT,tT,fF,fF,fF,fF,fF,fF,fF] rfl rfl (any_of HT_.out (by kernel_rfl)) (fun _ _ _ h=>h) (Or.inr ⟨by rfl,rfl⟩) ?_ ?_
     rotate_left
     ·simp only [Act.put,sI,sZ,sS,i64_w,i32_w]
      rfl
     refine pure_ (i:=10) (N:=some 14) (v:=undef) (a':=?_) #[tT,tT,tT,tT,tT,tT,tT,tT,tT,tT,tT,fF,fF,fF,fF,fF,fF] rfl rfl (any_of HT_.out (by kernel_rfl)) (fun _ _ _ h=>h) (Or.inr ⟨by rfl,rfl⟩) ?_ ?_
     rotate_left
     ·simp only [Act.put,sI,sZ,sS,i64_w,i32_w]
      rfl
     refine pure_ (i:=11) (N:=some 15) (v:=undef) (a':=?_) #[tT,tT,tT,tT,tT,tT,tT,tT,tT,tT,tT,tT,fF,fF,fF,fF,fF] rfl rfl (any_of HT_.out (by kernel_rfl)) (fun _ _ _ h=>h) (Or.inr ⟨by rfl,rfl⟩) ?_ ?_
     rotate_left
     ·simp only [Act.put,sI,sZ,sS,i64_w,i32_w]
      rfl
     refine pure_ (i:=12) (N:=some 16) (v:=undef) (a':=?_) #[tT,tT,tT,tT,tT,tT,tT,tT,tT,tT,tT,tT,tT,fF,fF,fF,fF] rfl rfl (any_of HT_.out (by kernel_rfl)) (fun _ _ _ h=>h) (Or.inr ⟨by rfl,rfl⟩) ?_ ?_
     rotate_left
     ·simp only [Act.put,sI,sZ,sS,i64_w,i32_w]
      rfl
     refine pure_ (i:=13) (N:=some 17) (v:=undef) (a':=?_) #[tT,tT,tT,tT,tT,tT,tT,tT,tT,tT,tT,tT,tT,tT,fF,fF,fF] rfl rfl (any_of HT_.out (by kernel_rfl)) (fun _ _ _ h=>h) (Or.inr ⟨by rfl,rfl⟩) ?_ ?_
     rotate_left
     ·simp only [Act.put,sI,sZ,sS,i64_w,i32_w]
      rfl
     refine pure_ (i:=14) (N:=some 18) (v:=undef) (a':=?_) #[tT,tT,tT,tT,tT,tT,tT,tT,tT,tT,tT,tT,tT,tT,tT,fF,fF] rfl rfl (any_of HT_.out (by kernel_rfl)) (fun _ _ _ h=>h) (Or.inr ⟨by rfl,rfl⟩) ?_ ?_
     rotate_left
     ·simp only [Act.put,sI,sZ,sS,i64_w,i32_w]
      rfl
     refine pure_ (i:=15) (N:=some 19) (v:=undef) (a':=?_) #[tT,tT,tT,tT,tT,tT,tT,tT,tT,tT,tT,tT,tT,tT,tT,tT,fF] rfl rfl (any_of HT_.out (by kernel_rfl)) (fun _ _ _ h=>h) (Or.inr ⟨by rfl,rfl⟩) ?_ ?_
     rotate_left
     ·simp only [Act.put,sI,sZ,sS,i64_w,i32_w]
      rfl
     refine pure_ (i:=16) (N:=some 20) (v:=?_) (a':=?_) #[tT,tT,tT,tT,tT,tT,tT,tT,tT,tT,tT,tT,tT,tT,tT,tT,tT] rfl rfl (any_of HT_.out (by kernel_rfl)) (fun _ _ _ h=>h) (Or.inl ⟨by rfl,?_⟩) ?_ ?_
     rotate_left
     ·intro w'
      go_simp
      with_reducible rfl
     rotate_left
     ·simp only [Act.put,sI,sZ,sS,i64_w,i32_w]
      rfl
     refine done_ (done_of HT_.out (by kernel_rfl)) ?_
     try go_wp2
     go_roundg k1
     case measure=>have:=HK1.out;omega
     case rel=>exact ⟨(wrap64 (x3_1 + 1)),(by first|rfl|(simp;done)|(simp [*];done)),H',⟨by have:=HK1.out;omega⟩,⟨bb HB⟩⟩
def impl_sequence.l0:Nat → ByteArray → ByteArray → Option (ByteArray × ByteArray)
 | 0,_,_=>none
 | k + 1,x0,x1=>if x0.toList = ([]:List UInt8) then (some (x0,x1)) else (if 0 ≤ (wrap64 ((x0.size:Int) - 1)) then (if (wrap64 ((x0.size:Int) - 1)) < (x0.size:Int) then (if 0 ≤ (wrap64 ((x1.size:Int) - 1)) then (if (wrap64 ((x1.size:Int) - 1)) < (x1.size:Int) then (if (bt x0 (wrap64 ((x0.size:Int) - 1))) = (bt x1 (wrap64 ((x1.size:Int) - 1))) then (if (wrap64 ((x0.size:Int) - 1)) ≤ (x0.size:Int) then (if (wrap64 ((x1.size:Int) - 1)) ≤ (x1.size:Int) then (if (x1.extract ((wrap64 ((x1.size:Int) - 1)):Int).toNat x1.size).size + (x1.extract 0 ((wrap64 ((x1.size:Int) - 1)):Int).toNat).size ≤ 9223372036854775807 then (impl_sequence.l0 k (x0.extract 0 ((wrap64 ((x0.size:Int) - 1)):Int).toNat) ((x1.extract ((wrap64 ((x1.size:Int) - 1)):Int).toNat x1.size) ++ (x1.extract 0 ((wrap64 ((x1.size:Int) - 1)):Int).toNat))) else (none)) else (none)) else (none)) else (some (x0,x1))) else (none)) else (none)) else (none)) else (none))
def impl_sequence.f (k:Nat) (a0:ByteArray) (a1:ByteArray):Option (ByteArray × ByteArray):=(impl_root.f k a1).bind fun t221=>(impl_sequence.l0 k a0 t221)
theorem impl_sequence.mono_l:∀ k,(∀ y0 y1,LeO (impl_sequence.l0 k y0 y1) (impl_sequence.l0 (k + 1) y0 y1))
 | 0=>fun _ _ r h=>by simp [impl_sequence.l0] at h
 | k + 1=>by
  have ih0:=impl_sequence.mono_l k
  ·intro y0 y1
   unfold impl_sequence.l0
   repeat' first
   | (with_reducible exact ih0 _ _)
   | (with_reducible exact impl_root.mono _ _)
   | (with_reducible exact LeO.refl _)
   | (with_reducible exact LeO.none _)
   | (with_reducible refine LeO.ite ?_ ?_)
   | (with_reducible refine LeO.bind ?_ (fun _=>?_))
   | exact ih0 _ _
   | exact impl_root.mono _ _
   | exact LeO.none _
   | refine LeO.ite ?_ ?_
   | refine LeO.bind ?_ (fun _=>?_)
theorem impl_sequence.mono:∀ a0 a1 k,LeO (impl_sequence.f k a0 a1) (impl_sequence.f (k + 1) a0 a1):=by
 intro a0 a1 k
 have ih0:=impl_sequence.mono_l k
 unfold impl_sequence.f
 repeat' first
   | (with_reducible exact ih0 _ _)
   | (with_reducible exact impl_root.mono _ _)
   | (with_reducible exact LeO.refl _)
   | (with_reducible exact LeO.none _)
   | (with_reducible refine LeO.ite ?_ ?_)
   | (with_reducible refine LeO.bind ?_ (fun _=>?_))
   | exact ih0 _ _
   | exact impl_root.mono _ _
   | exact LeO.none _
   | refine LeO.ite ?_ ?_
   | refine LeO.bind ?_ (fun _=>?_)
set_option maxHeartbeats 8000000 in
set_option maxRecDepth 100000 in
theorem impl_sequence.calls (k:Nat) (a0:ByteArray) (a1:ByteArray) (r1:ByteArray) (r2:ByteArray) (w:World) (h:impl_sequence.f k a0 a1 = some (r1,r2)) :
  Calls Try.prog 25 #[.string a0,.string a1] w fun e w'=>e = .returned (.agg #[.string r1,.string r2]) ∧ Below w.heap.size w w':=by
 have hu27:=Try.underlying27
 have HB:=aM (Below.refl w.heap.size w)
 have H:((impl_root.f k a1).bind fun t221=>(impl_sequence.l0 k a0 t221)) = some (r1,r2):=h
 clear h
 replace H:=Option.bind_eq_some_iff.mp H
 obtain ⟨t221,A30,H⟩:=H
 replace H:(impl_sequence.l0 k a0 t221) = some (r1,r2):=H;have A3:=aM A30
 clear A30
 have H':=aM H
 clear H
 go_enter Try.func25,Try.ntmps25
 go_wp2_with (first|((with_reducible refine gate_dst (N:=4) rfl ?_);(try (refine gate_guard (by rfl) ?_;dsimp only));refine box_event ?hg (N:=4) ?hd (cs:=#[.string ⟨#[]⟩,.string ⟨#[]⟩]) (t:=27) ?hr ?_;(case hd=>rfl);(case hg=>rfl);(case hr=>first|(go_simp;done)|(go_simp;rfl));intro gb220 hg w4 hbox hb;have BK220:=aM (hbox);have GW220:=wl hg HB;have GE220:=wl hg HB;replace HB:=bs HB hb;clear hb hbox hg)|(go_at_call 36;(with_reducible refine (impl_root.calls k a1 t221 _ A3.out).mono ?_);rintro e w5 ⟨rfl,hb⟩;replace BK220:=kb BK220 hb;replace HB:=bs HB hb;(try clear hb)))
 repeat (go_quiet (first|((with_reducible refine gate_dst (N:=4) rfl ?_);(try (refine gate_guard (by rfl) ?_;dsimp only));refine box_event ?hg (N:=4) ?hd (cs:=#[.string ⟨#[]⟩,.string ⟨#[]⟩]) (t:=27) ?hr ?_;(case hd=>rfl);(case hg=>rfl);(case hr=>first|(go_simp;done)|(go_simp;rfl));intro gb220 hg w4 hbox hb;have BK220:=aM (hbox);have GW220:=wl hg HB;have GE220:=wl hg HB;replace HB:=bs HB hb;clear hb hbox hg)|(go_at_call 36;(with_reducible refine (impl_root.calls k a1 t221 _ A3.out).mono ?_);rintro e w5 ⟨rfl,hb⟩;replace BK220:=kb BK220 hb;replace HB:=bs HB hb;(try clear hb)));try go_wp2_with (first|((with_reducible refine gate_dst (N:=4) rfl ?_);(try (refine gate_guard (by rfl) ?_;dsimp only));refine box_event ?hg (N:=4) ?hd (cs:=#[.string ⟨#[]⟩,.string ⟨#[]⟩]) (t:=27) ?hr ?_;(case hd=>rfl);(case hg=>rfl);(case hr=>first|(go_simp;done)|(go_simp;rfl));intro gb220 hg w4 hbox hb;have BK220:=aM (hbox);have GW220:=wl hg HB;have GE220:=wl hg HB;replace HB:=bs HB hb;clear hb hbox hg)|(go_at_call 36;(with_reducible refine (impl_root.calls k a1 t221 _ A3.out).mono ?_);rintro e w5 ⟨rfl,hb⟩;replace BK220:=kb BK220 hb;replace HB:=bs HB hb;(try clear hb))))
 go_loopg [0,1] k (fun kq v0 v1 w'=>∃ (x0_1:ByteArray) (x1_1:ByteArray),v0 = .string x0_1 ∧ v1 = .string x1_1 ∧ Aside0 (impl_sequence.l0 kq x0_1 x1_1 = some (r1,r2)) ∧ Aside0 (kq ≤ k) ∧ Aside0 (w'.heap[gb220]? = some (.cells #[.string ⟨#[]⟩,.string ⟨#[]⟩] 27 (0,0))) ∧ Aside0 (Below w.heap.size w w'))
 case atStart=>exact ⟨(a0),(t221),(by first|rfl|(simp;done)|(simp [*];done)),(by first|rfl|(simp;done)|(simp [*];done)),H',⟨Nat.le_refl _⟩,⟨bk BK220⟩,⟨bb HB⟩⟩
 case round =>
  clear H'
  try clear c2
  try clear p2
  obtain ⟨x0_1,x1_1,rfl,rfl,HA,HK1,BK220,HB⟩:=hrel
  cases gk with
  | zero=>exact absurd HA.out (by simp [impl_sequence.l0])
  | succ k1 =>
   have H:=HA.out
   clear HA
   simp only [impl_sequence.l0] at H
   by_cases c6:x0_1.toList = ([]:List UInt8)
   ·rw [if_pos c6] at H
    have c6b0:(x0_1.toList == ([]:List UInt8)) = true:=beq_iff_eq.mpr c6
    have c6b1:(x0_1.toList != ([]:List UInt8)) = false:=bne_eq_false_iff_eq.mpr c6
    clear c6
    simp only [Option.some.injEq,Prod.mk.injEq] at H
    obtain ⟨rfl,rfl⟩:=H
    have⟨a0,a1,b0,b1⟩:=q2f BK220
    go_wp2
    repeat (go_quiet (fail);try go_wp2)
    refine bodyPost_ret (results_cell_row rfl _ _ gb220 27 #[.string x0_1,.string x1_1] (0,0) _ rfl (by (with_reducible repeat (first|apply yN|apply yD|apply yA));refine blk_put (cs:=#[.string x0_1,.string ⟨#[]⟩]) ?_ 1 _ rfl;(with_reducible repeat (first|apply yN|apply yD|apply yA));refine blk_put (cs:=#[.string ⟨#[]⟩,.string ⟨#[]⟩]) ?_ 0 _ rfl;(with_reducible repeat (first|apply yN|apply yD|apply yA));exact BK220.out) Try.underlying27 rfl (by kernel_rfl)) rfl ?_
    exact ⟨by first|rfl|(simp [errW_none,errW_some] <;> rfl)|(simp [*,errW_none,errW_some] <;> rfl),by first|exact bb HB|exact bg HB GE220⟩
   ·rw [if_neg c6] at H
    have c6b0:(x0_1.toList == ([]:List UInt8)) = false:=beq_eq_false_iff_ne.mpr c6
    have c6b1:(x0_1.toList != ([]:List UInt8)) = true:=bne_iff_ne.mpr c6
    obtain ⟨ji8,hji8⟩:∃ j_:Int,(wrap64 ((x0_1.size:Int) - 1)) = j_:=⟨_,rfl⟩
    replace H:(if 0 ≤ (ji8) then (if (ji8) < (x0_1.size:Int) then (if 0 ≤ (wrap64 ((x1_1.size:Int) - 1)) then (if (wrap64 ((x1_1.size:Int) - 1)) < (x1_1.size:Int) then (if (bt x0_1 (ji8)) = (bt x1_1 (wrap64 ((x1_1.size:Int) - 1))) then (if (ji8) ≤ (x0_1.size:Int) then (if (wrap64 ((x1_1.size:Int) - 1)) ≤ (x1_1.size:Int) then (if (x1_1.extract ((wrap64 ((x1_1.size:Int) - 1)):Int).toNat x1_1.size).size + (x1_1.extract 0 ((wrap64 ((x1_1.size:Int) - 1)):Int).toNat).size ≤ 9223372036854775807 then (impl_sequence.l0 k1 (x0_1.extract 0 ((ji8):Int).toNat) ((x1_1.extract ((wrap64 ((x1_1.size:Int) - 1)):Int).toNat x1_1.size) ++ (x1_1.extract 0 ((wrap64 ((x1_1.size:Int) - 1)):Int).toNat))) else (none)) else (none)) else (none)) else (some (x0_1,x1_1))) else (none)) else (none)) else (none)) else (none)) = some (r1,r2):=by first|(rw [hji8] at H;exact H)|(simp only [hji8] at H ⊢;exact H)
    have hji8w:(IntKind.i64.wrap ((x0_1.size:Int) - 1)) = ji8:=(i64_w _).trans hji8
    by_cases c9:0 ≤ (ji8)
    ·rw [if_pos c9] at H
     have c9b0:decide (0 ≤ (ji8)) = true:=decide_eq_true c9
     clear c9
     by_cases c10:(ji8) < (x0_1.size:Int)
     ·rw [if_pos c10] at H
      have c10b0:decide ((ji8) < (x0_1.size:Int)) = true:=decide_eq_true c10
      clear c10
      obtain ⟨ji12,hji12⟩:∃ j_:Int,(wrap64 ((x1_1.size:Int) - 1)) = j_:=⟨_,rfl⟩
      replace H:(if 0 ≤ (ji12) then (if (ji12) < (x1_1.size:Int) then (if (bt x0_1 (ji8)) = (bt x1_1 (ji12)) then (if (ji8) ≤ (x0_1.size:Int) then (if (ji12) ≤ (x1_1.size:Int) then (if (x1_1.extract ((ji12):Int).toNat x1_1.size).size + (x1_1.extract 0 ((ji12):Int).toNat).size ≤ 9223372036854775807 then (impl_sequence.l0 k1 (x0_1.extract 0 ((ji8):Int).toNat) ((x1_1.extract ((ji12):Int).toNat x1_1.size) ++ (x1_1.extract 0 ((ji12):Int).toNat))) else (none)) else (none)) else (none)) else (some (x0_1,x1_1))) else (none)) else (none)) = some (r1,r2):=by first|(rw [hji12] at H;exact H)|(simp only [hji12] at H ⊢;exact H)
      have hji12w:(IntKind.i64.wrap ((x1_1.size:Int) - 1)) = ji12:=(i64_w _).trans hji12
      by_cases c13:0 ≤ (ji12)
      ·rw [if_pos c13] at H
       have c13b0:decide (0 ≤ (ji12)) = true:=decide_eq_true c13
       clear c13
       by_cases c14:(ji12) < (x1_1.size:Int)
       ·rw [if_pos c14] at H
        have c14b0:decide ((ji12) < (x1_1.size:Int)) = true:=decide_eq_true c14
        clear c14
        by_cases c16:(bt x0_1 (ji8)) = (bt x1_1 (ji12))
        ·rw [if_pos c16] at H
         have c16b0:((bt x0_1 (ji8)) == (bt x1_1 (ji12))) = true:=beq_iff_eq.mpr c16
         have c16b1:((bt x0_1 (ji8)) != (bt x1_1 (ji12))) = false:=bne_eq_false_iff_eq.mpr c16
         clear c16
         have c17b0:=eq_true (of_decide_eq_true (by first|(with_reducible assumption)|assumption):0 ≤ (ji8))
         by_cases c18:(ji8) ≤ (x0_1.size:Int)
         ·rw [if_pos c18] at H
          have c18b0:=eq_true c18
          have c18b1:decide ((ji8) ≤ (x0_1.size:Int)) = true:=decide_eq_true c18
          clear c18
          have c19b0:=eq_true (of_decide_eq_true (by first|(with_reducible assumption)|assumption):0 ≤ (ji12))
          by_cases c20:(ji12) ≤ (x1_1.size:Int)
          ·rw [if_pos c20] at H
           have c20b0:=eq_true c20
           have c20b1:decide ((ji12) ≤ (x1_1.size:Int)) = true:=decide_eq_true c20
           clear c20
           have c21b0:=eq_true (of_decide_eq_true (by first|(with_reducible assumption)|assumption):0 ≤ (ji12))
           have c22b0:=eq_true (of_decide_eq_true (by first|(with_reducible assumption)|assumption):(ji12) ≤ (x1_1.size:Int))
           by_cases c23:(x1_1.extract ((ji12):Int).toNat x1_1.size).size + (x1_1.extract 0 ((ji12):Int).toNat).size ≤ 9223372036854775807
           ·rw [if_pos c23] at H
            have c23b0:=eq_true c23
            have c23b1:decide ((x1_1.extract ((ji12):Int).toNat x1_1.size).size + (x1_1.extract 0 ((ji12):Int).toNat).size ≤ 9223372036854775807) = true:=decide_eq_true c23
            try have c23b2:(9223372036854775807 < (x1_1.extract ((ji12):Int).toNat x1_1.size).size + (x1_1.extract 0 ((ji12):Int).toNat).size) = False:=eq_false (Nat.not_lt.2 c23)
            try (have c23b3:=c23;simp at c23b3;have c23b4:=eq_false (Nat.not_lt.2 c23b3))
            have H':=aM H
            clear H
            have p11:0 ≤ ((ji8):Int):=of_decide_eq_true (by first|(with_reducible assumption)|assumption)
            have q11:(ji8) < (x0_1.size:Int):=of_decide_eq_true (by first|(with_reducible assumption)|assumption)
            have hx11:=bt_at x0_1 (ji8)
            replace p11:=eq_true p11;replace q11:=eq_true q11
            have p15:0 ≤ ((ji12):Int):=of_decide_eq_true (by first|(with_reducible assumption)|assumption)
            have q15:(ji12) < (x1_1.size:Int):=of_decide_eq_true (by first|(with_reducible assumption)|assumption)
            have hx15:=bt_at x1_1 (ji12)
            replace p15:=eq_true p15;replace q15:=eq_true q15
            go_wp2
            repeat (go_quiet (fail);try go_wp2)
            go_roundg k1
            case measure=>have:=HK1.out;omega
            case rel=>exact ⟨(x0_1.extract 0 ((ji8):Int).toNat),((x1_1.extract ((ji12):Int).toNat x1_1.size) ++ (x1_1.extract 0 ((ji12):Int).toNat)),(by first|rfl|(simp;done)|(simp only [← hji8] <;> (first|rfl|simp))|(simp [*];done)),(by first|rfl|(simp;done)|(simp only [← hji12] <;> (first|rfl|simp))|(simp [*];done)),H',⟨by have:=HK1.out;omega⟩,⟨bk BK220⟩,⟨bb HB⟩⟩
           ·rw [if_neg c23] at H
            exact absurd H (by simp)
          ·rw [if_neg c20] at H
           exact absurd H (by simp)
         ·rw [if_neg c18] at H
          exact absurd H (by simp)
        ·rw [if_neg c16] at H
         have c16b0:((bt x0_1 (ji8)) == (bt x1_1 (ji12))) = false:=beq_eq_false_iff_ne.mpr c16
         have c16b1:((bt x0_1 (ji8)) != (bt x1_1 (ji12))) = true:=bne_iff_ne.mpr c16
         simp only [Option.some.injEq,Prod.mk.injEq] at H
         obtain ⟨rfl,rfl⟩:=H
         have p11:0 ≤ ((ji8):Int):=of_decide_eq_true (by first|(with_reducible assumption)|assumption)
         have q11:(ji8) < (x0_1.size:Int):=of_decide_eq_true (by first|(with_reducible assumption)|assumption)
         have hx11:=bt_at x0_1 (ji8)
         replace p11:=eq_true p11;replace q11:=eq_true q11
         have p15:0 ≤ ((ji12):Int):=of_decide_eq_true (by first|(with_reducible assumption)|assumption)
         have q15:(ji12) < (x1_1.size:Int):=of_decide_eq_true (by first|(with_reducible assumption)|assumption)
         have hx15:=bt_at x1_1 (ji12)
         replace p15:=eq_true p15;replace q15:=eq_true q15;have⟨a0,a1,b0,b1⟩:=q2f BK220
         go_wp2
         repeat (go_quiet (fail);try go_wp2)
         refine bodyPost_ret (results_cell_row rfl _ _ gb220 27 #[.string x0_1,.string x1_1] (0,0) _ rfl (by (with_reducible repeat (first|apply yN|apply yD|apply yA));refine blk_put (cs:=#[.string x0_1,.string ⟨#[]⟩]) ?_ 1 _ rfl;(with_reducible repeat (first|apply yN|apply yD|apply yA));refine blk_put (cs:=#[.string ⟨#[]⟩,.string ⟨#[]⟩]) ?_ 0 _ rfl;(with_reducible repeat (first|apply yN|apply yD|apply yA));exact BK220.out) Try.underlying27 rfl (by kernel_rfl)) rfl ?_
         exact ⟨by first|rfl|(simp [errW_none,errW_some] <;> rfl)|(simp only [← hji8,← hji12];first|rfl|(simp [errW_none,errW_some] <;> rfl))|(simp [*,errW_none,errW_some] <;> rfl),by first|exact bb HB|exact bg HB GE220⟩
       ·rw [if_neg c14] at H
        exact absurd H (by simp)
      ·rw [if_neg c13] at H
       exact absurd H (by simp)
     ·rw [if_neg c10] at H
      exact absurd H (by simp)
    ·rw [if_neg c9] at H
     exact absurd H (by simp)
set_option maxHeartbeats 1000000 in
theorem indexFunc_byte.calls (g:Nat) (lb:Array Value) (eg:∀ args w,(callFunc g args).run Try.prog w = .ok (.enter g args) w) (p:Int → Option Bool) (A0:Option Addr) (c0:Nat) (l0:List Int) (r:Int) (w:World)
  (hr0:Kd.C (Kd.int .u8) w A0 l0.length l0) (hc0:l0.length ≤ c0)
  (hp:∀ W x b,Below w.heap.size w W → p x = some b → Calls Try.prog g (#[.int .u8 x] ++ lb) W fun e w'=>e = .returned (.bool b) ∧ Below W.heap.size W w')
  (h:idxGo p 0 l0 = some r) :
  Calls Try.prog 64 #[.slice A0 l0.length c0,.func (.func g) #[] lb] w fun e w'=>e = .returned (.int .i64 r) ∧ Below w.heap.size w w':=by
 have hm:=Kd.C_max hr0
 have HR:=aM hr0;have H0:=aM h;have HP:=aM hp
 clear hr0 h hp
 go_enter Try.func64,Try.ntmps64
 go_wp2
 go_loopg [8] l0.length (fun gg i wr=>∃ k:Nat,k ≤ l0.length ∧ l0.length - k ≤ gg ∧ i = .int .i64 k ∧ Aside0 (idxGo p k (l0.drop k) = some r) ∧ Aside0 (Below w.heap.size w wr))
 case atStart=>exact ⟨0,Nat.zero_le _,by omega,rfl,aM (by simpa using H0.out),aM (Below.refl _ _)⟩
 case round =>
  obtain ⟨k,hk,hg,rfl,HJ,HB⟩:=hrel
  clear H0
  by_cases hlt:k < l0.length
  ·have hlti:(k:Int) < (l0.length:Int):=by omega
   obtain ⟨b,hb,hstep⟩:=idxGo_drop p l0 k k r hlt HJ.out
   obtain ⟨ad,e,e0⟩:=Kd.at_int (Kd.C_below HR.out HB.out) (k:Int) (by omega) hlti
   have hx:rd l0 (k:Int) = l0[k]:=by simp [rd,hlt]
   rw [hx] at e0
   simp only [Int.toNat_natCast] at e0
   generalize l0[k] = x at hb e0
   have hcall:=HP.out wr x b HB.out hb
   subst e
   rcases hstep with ⟨rfl,rfl⟩|⟨rfl,hj⟩
   ·have HC:=aM hcall
    have HB1:=HB.out
    clear hcall hb hx HP HJ
    go_wp2_with (go_at_fn g;refine HC.out.mono ?_;rintro e w' ⟨rfl,hb'⟩)
    go_ret
    exact ⟨rfl,HB1.trans (hb'.mono HB1.size)⟩
   ·have HC:=aM hcall
    have HJ2:=aM hj
    clear hcall hb hx hj
    go_wp2_with (go_at_fn g;refine HC.out.mono ?_;rintro e w' ⟨rfl,hb'⟩)
    go_roundg (l0.length - (k + 1))
    case measure=>omega
    case rel=>exact ⟨k + 1,by omega,by omega,by go_num,⟨by simpa using HJ2.out⟩,⟨HB.out.trans (hb'.mono HB.out.size)⟩⟩
  ·have hlti:¬ (k:Int) < (l0.length:Int):=by omega
   have hr:r = -1:=idxGo_end p l0 k k r (by omega) HJ.out
   have HR1:=aM hr
   have HB1:=HB.out
   clear hr HP HJ
   go_wp2
   go_ret
   exact ⟨by rw [HR1.out];rfl,HB1⟩
set_option maxHeartbeats 1000000 in
theorem containsFunc_byte.calls (g:Nat) (lb:Array Value) (eg:∀ args w,(callFunc g args).run Try.prog w = .ok (.enter g args) w) (p:Int → Option Bool) (A0:Option Addr) (c0:Nat) (l0:List Int) (r:Int) (w:World)
  (hr0:Kd.C (Kd.int .u8) w A0 l0.length l0) (hc0:l0.length ≤ c0)
  (hp:∀ W x b,Below w.heap.size w W → p x = some b → Calls Try.prog g (#[.int .u8 x] ++ lb) W fun e w'=>e = .returned (.bool b) ∧ Below W.heap.size W w')
  (h:idxGo p 0 l0 = some r) :
  Calls Try.prog 56 #[.slice A0 l0.length c0,.func (.func g) #[] lb] w fun e w'=>e = .returned (.bool (decide (0 ≤ r))) ∧ Below w.heap.size w w':=by
 have hcon:=indexFunc_byte.calls g lb eg p A0 c0 l0 r w hr0 hc0 hp h
 have HC:=aM hcon
 clear hcon hp h hr0
 go_enter Try.func56,Try.ntmps56
 go_wp2_with (go_at_call 64;refine HC.out.mono ?_;rintro e w' ⟨rfl,hb'⟩)
 go_ret
 exact ⟨rfl,hb'⟩
set_option maxHeartbeats 1000000 in
theorem notIs_byte.calls (g:Nat) (eg:∀ args w,(callFunc g args).run Try.prog w = .ok (.enter g args) w) (B:Nat) (w:World) (hcell:w.cell? ⟨B,0,none⟩ = some (.func (.func g) #[] #[])) (hB:B < w.heap.size) (x:Int) (b:Bool)
  (hp:∀ W,Below w.heap.size w W → Calls Try.prog g #[.int .u8 x] W fun e w'=>e = .returned (.bool b) ∧ Below W.heap.size W w') :
  Calls Try.prog 57 #[.int .u8 x,.pointer (some ⟨B,0,none⟩)] w fun e w'=>e = .returned (.bool (!b)) ∧ Below w.heap.size w w':=by
 have HP:=aM hp
 have hu:=Try.underlying5
 clear hp
 go_enter Try.func57,Try.ntmps57
 go_wp2_with (go_at_fn g;refine (HP.out _ (Below.refl _ _)).mono ?_;rintro e w' ⟨rfl,hb'⟩)
 go_ret
 exact ⟨rfl,hb'⟩
set_option maxHeartbeats 1000000 in
theorem areAll_byte.calls (g:Nat) (eg:∀ args w,(callFunc g args).run Try.prog w = .ok (.enter g args) w) (p:Int → Option Bool) (A0:Option Addr) (c0:Nat) (l0:List Int) (r:Bool) (w:World)
  (hr0:Kd.C (Kd.int .u8) w A0 l0.length l0) (hc0:l0.length ≤ c0)
  (hp:∀ W x b,Below w.heap.size w W → p x = some b → Calls Try.prog g #[.int .u8 x] W fun e w'=>e = .returned (.bool b) ∧ Below W.heap.size W w')
  (h:allM p l0 = some r) :
  Calls Try.prog 46 #[.slice A0 l0.length c0,.func (.func g) #[] #[]] w fun e w'=>e = .returned (.bool r) ∧ Below w.heap.size w w':=by
 obtain ⟨i,h1,h2⟩:=allM_idx p l0 0 r (by omega) h
 have hw1:Below w.heap.size w (w.alloc (.cells #[.func (.func g) #[] #[]] 69)):=(Below.refl _ w).alloc (Nat.le_refl _) _
 have hcon:=containsFunc_byte.calls 57 #[.pointer (some ⟨w.heap.size,0,none⟩)] (enters_of Try.func57 (by kernel_rfl) rfl)
  (fun x=>(p x).map (fun b=>!b)) A0 c0 l0 i (w.alloc (.cells #[.func (.func g) #[] #[]] 69)) (Kd.C_below hr0 hw1) hc0
  (fun W x b hW hx=>by
   obtain ⟨q,hq,rfl⟩:=Option.map_eq_some_iff.1 hx
   have hcell:W.cell? ⟨w.heap.size,0,none⟩ = some (.func (.func g) #[] #[]):=(hW.cell (p:=⟨w.heap.size,0,none⟩) (by simp)).trans (by simp)
   exact notIs_byte.calls g eg w.heap.size W hcell (by have:=hW.size;simp at this;omega) x q (fun W' hW'=>hp W' x q (hw1.trans ((hW.mono (by simp)).trans (hW'.mono (by have:=hW.size;simp at this;omega)))) hq)) h1
 have HC:=aM hcon;have H2:=aM h2
 clear hcon hp h hr0 h1 h2
 go_enter Try.func46,Try.ntmps46
 go_wp2_with (go_at_call 56;refine HC.out.mono ?_;rintro e w' ⟨rfl,hb'⟩)
 go_ret
 exact ⟨by rw [H2.out];simp,hw1.trans (hb'.mono (by simp))⟩
def isLetterN (x:Int):Bool:=decide (x = 48) || (decide (x = 49) || decide (x = 42))
theorem allM_some {α:Type} (q:α → Bool):∀ l:List α,allM (fun x=>some (q x)) l = some (l.all q)
 | []=>rfl
 | x :: xs=>by
  unfold allM
  simp only [Option.bind_some,List.all_cons]
  cases h:q x
  ·simp
  ·simpa using allM_some q xs
set_option maxHeartbeats 1000000 in
theorem isLetterN.calls (x:Int) (w:World) :
  Calls Try.prog 47 #[.int .u8 x] w fun e w'=>e = .returned (.bool (isLetterN x)) ∧ Below w.heap.size w w':=by
 go_enter Try.func47,Try.ntmps47
 go_wp2
 all_goals (go_ret;refine ⟨?_,Below.refl _ _⟩;unfold isLetterN;first|(simp_all;done)|(simp_all;rw [Bool.eq_iff_iff];simp;omega))
def impl_areLetters.f (a0:ByteArray):Option Bool:=if a0.size ≤ 9223372036854775807 then some ((bytesOf a0).all isLetterN) else none
set_option maxHeartbeats 1000000 in
theorem impl_areLetters.calls (a0:ByteArray) (r:Bool) (w:World) (h:impl_areLetters.f a0 = some r) :
  Calls Try.prog 40 #[.string a0] w fun e w'=>e = .returned (.bool r) ∧ Below w.heap.size w w':=by
 unfold impl_areLetters.f at h
 by_cases hs:a0.size ≤ 9223372036854775807
 ·rw [if_pos hs] at h
  have hcv:=print_bytes (P:=Try.prog) 9 42 5 Try.underlying9 Try.underlying42 Try.underlying5 a0 w
  have hrd:Kd.C (Kd.int .u8) (Lib.bytesWorld w 5 a0) (some ⟨w.heap.size,0,none⟩) (bytesOf a0).length (bytesOf a0):=by
   rw [bytesOf_length]
   exact Kd.C_of_reads (enc:=Value.int .u8) (d:=(0:Int)) (h1:=fun _=>rfl) (bytes_reads w 5 a0 hs)
  have hb:=bytes_below (Below.refl w.heap.size w) (Nat.le_refl _) 5 a0
  have hcap:(bytesOf a0).length ≤ grownCap w a0.size 0 5:=by rw [bytesOf_length];exact grownCap_ge w a0.size 0 5
  have hall:=areAll_byte.calls 47 (enters_of Try.func47 (by kernel_rfl) rfl) (fun x=>some (isLetterN x)) (some ⟨w.heap.size,0,none⟩) (grownCap w a0.size 0 5) (bytesOf a0) r (Lib.bytesWorld w 5 a0) hrd hcap
   (fun W x b _ hx=>by
    obtain rfl:=Option.some.inj hx
    exact isLetterN.calls x W) (by rw [allM_some];exact h)
  rw [bytesOf_length] at hall
  have HC:=aM hall;have HB:=aM hb
  clear hall hb hrd h hcap
  generalize Lib.bytesWorld w 5 a0 = W1 at hcv HC HB
  generalize grownCap w a0.size 0 5 = cap at hcv HC
  go_enter Try.func40,Try.ntmps40
  go_wp2_with (go_at_call 46;refine HC.out.mono ?_;rintro e w' ⟨rfl,hb'⟩)
  go_ret
  exact ⟨rfl,HB.out.trans (hb'.mono HB.out.size)⟩
 ·rw [if_neg hs] at h
  cases h
def impl_areGiven.f (a0:ByteArray) (a1:ByteArray):Option (Bool):=if a1.toList = ([]:List UInt8) then (some false) else (some (decide ((wrap64 ((a0.size:Int) + (a1.size:Int))) ≤ 64)))
set_option maxHeartbeats 8000000 in
set_option maxRecDepth 100000 in
theorem impl_areGiven.calls (a0:ByteArray) (a1:ByteArray) (r:Bool) (w:World) (h:impl_areGiven.f a0 a1 = some r) :
  Calls Try.prog 41 #[.string a0,.string a1] w fun e w'=>e = .returned (.bool r) ∧ Drawn0 w w':=by
 have H:(if a1.toList = ([]:List UInt8) then (some false) else (some (decide ((wrap64 ((a0.size:Int) + (a1.size:Int))) ≤ 64)))) = some r:=h
 clear h
 by_cases c3:a1.toList = ([]:List UInt8)
 ·rw [if_pos c3] at H
  have c3b0:(a1.toList == ([]:List UInt8)) = true:=beq_iff_eq.mpr c3
  have c3b1:(a1.toList != ([]:List UInt8)) = false:=bne_eq_false_iff_eq.mpr c3
  clear c3
  obtain rfl:=Option.some.inj H
  go_enter Try.func41,Try.ntmps41
  go_wp2
  go_ret
  exact ⟨by first|rfl|(simp;done)|(simp [*];done),by repeat (first|exact Drawn0.refl _|apply Drawn0.step)⟩
 ·rw [if_neg c3] at H
  have c3b0:(a1.toList == ([]:List UInt8)) = false:=beq_eq_false_iff_ne.mpr c3
  have c3b1:(a1.toList != ([]:List UInt8)) = true:=bne_iff_ne.mpr c3
  obtain rfl:=Option.some.inj H
  go_enter Try.func41,Try.ntmps41
  go_wp2
  go_ret
  exact ⟨by first|rfl|(simp;done)|(simp [*];done),by repeat (first|exact Drawn0.refl _|apply Drawn0.step)⟩
end Go.Proofs.Ytbiehbmojbmnoaa.Q
end
