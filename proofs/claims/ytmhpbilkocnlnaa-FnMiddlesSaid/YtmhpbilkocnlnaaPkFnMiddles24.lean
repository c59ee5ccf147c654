/- Joined texts: Qx21, Qx43, Qx38, Qx40, SeqPointM, MidPts, Qx57, Qx58, Qx54, Qx56, Qx59, Qx64, Qx2, Qx61, Qx63 -/
import Derived.Test.YtmhpbilkocnlnaaPkFnMiddles22
import Derived.Test.YtmhpbilkocnlnaaPkFnMiddles23
section
namespace Go.Proofs.Ytmhpbilkocnlnaa.Q
open Go.Proofs.YtmhpbilkocnlnaaW.Ext
open Go.RowKit Go.Proofs.YtmhpbilkocnlnaaW.PrintWords Go.Proofs.YtmhpbilkocnlnaaW.PrintLast Go.Proofs.YtmhpbilkocnlnaaW.PrintMore
attribute [local go_sem] max2_int min2_int max_two min_two max_three min_three max_four min_four   -- for this text's walks alone
set_option linter.unusedVariables false
set_option linter.unusedSimpArgs false
def spec_l01Shift.f (a0_0:ByteArray) (a0_1:ByteArray):Option (ByteArray × ByteArray):=if a0_0.toList = ([]:List UInt8) then (if 1 ≤ (a0_1.size:Int) then (if 0 ≤ 1 then (if (a0_1.extract 1 a0_1.size).size + (a0_1.extract 0 1).size ≤ 9223372036854775807 then (some ((⟨#[]⟩:ByteArray),(a0_1.extract 1 a0_1.size) ++ (a0_1.extract 0 1))) else (none)) else (none)) else (none)) else (if 1 ≤ (a0_0.size:Int) then (some (a0_0.extract 1 a0_0.size,a0_1)) else (none))
def spec_l01Shift.T3:Bool × List (List Nat × List Nat):=(true,[([],[]),([0],[0]),([1],[1]),([],[]),([3],[3]),([4],[4]),([2,5],[2,5]),([6],[6]),([7,0,1,2,3,4,5,6,7],[7])])
def spec_l01Shift.B3:List Nat:=[0,1,3,0,8,24,63,127,255]
theorem spec_l01Shift.tab3:rtab .any (opsOf Try.f48 3) = spec_l01Shift.T3:=by kernel_rfl
theorem spec_l01Shift.bits3:waitsOk spec_l01Shift.T3.2 spec_l01Shift.B3 = true:=by kernel_rfl
set_option maxHeartbeats 8000000 in
set_option maxRecDepth 100000 in
theorem spec_l01Shift.calls (a0_0:ByteArray) (a0_1:ByteArray) (r1:ByteArray) (r2:ByteArray) (w:World) (h:spec_l01Shift.f a0_0 a0_1 = some (r1,r2)) :
  Calls Try.prog 48 #[.agg #[.string a0_0,.string a0_1]] w fun e w'=>e = .returned (.agg #[.string r1,.string r2]) ∧ Below w.heap.size w w':=by
 have hu25:=Try.underlying25
 have HB:=aM (Below.refl w.heap.size w)
 have H:(if a0_0.toList = ([]:List UInt8) then (if 1 ≤ (a0_1.size:Int) then (if 0 ≤ 1 then (if (a0_1.extract 1 a0_1.size).size + (a0_1.extract 0 1).size ≤ 9223372036854775807 then (some ((⟨#[]⟩:ByteArray),(a0_1.extract 1 a0_1.size) ++ (a0_1.extract 0 1))) else (none)) else (none)) else (none)) else (if 1 ≤ (a0_0.size:Int) then (some (a0_0.extract 1 a0_0.size,a0_1)) else (none))) = some (r1,r2):=h
 clear h
 by_cases c2:a0_0.toList = ([]:List UInt8)
 ·rw [if_pos c2] at H
  have c2b0:(a0_0.toList == ([]:List UInt8)) = true:=beq_iff_eq.mpr c2
  have c2b1:(a0_0.toList != ([]:List UInt8)) = false:=bne_eq_false_iff_eq.mpr c2
  clear c2
  by_cases c3:1 ≤ (a0_1.size:Int)
  ·rw [if_pos c3] at H
   have c3b0:=eq_true c3
   have c3b1:decide (1 ≤ (a0_1.size:Int)) = true:=decide_eq_true c3
   clear c3
   by_cases c4:0 ≤ 1
   ·rw [if_pos c4] at H
    have c4b0:=eq_true c4
    have c4b1:decide (0 ≤ 1) = true:=decide_eq_true c4
    clear c4
    have c5b0:=eq_true (of_decide_eq_true (by assumption):1 ≤ (a0_1.size:Int))
    by_cases c6:(a0_1.extract 1 a0_1.size).size + (a0_1.extract 0 1).size ≤ 9223372036854775807
    ·rw [if_pos c6] at H
     have c6b0:=eq_true c6
     have c6b1:decide ((a0_1.extract 1 a0_1.size).size + (a0_1.extract 0 1).size ≤ 9223372036854775807) = true:=decide_eq_true c6
     try have c6b2:(9223372036854775807 < (a0_1.extract 1 a0_1.size).size + (a0_1.extract 0 1).size) = False:=eq_false (Nat.not_lt.2 c6)
     try (have c6b3:=c6;simp at c6b3;have c6b4:=eq_false (Nat.not_lt.2 c6b3))
     simp only [Option.some.injEq,Prod.mk.injEq] at H
     obtain ⟨rfl,rfl⟩:=H
     go_enter Try.func48,Try.ntmps48
     try go_wp2_with (first|((with_reducible refine gate_dst (N:=1) rfl ?_);refine box_event rfl (N:=1) rfl (cs:=#[.string a0_0,.string a0_1]) (t:=25) (by first|(go_simp;done)|(go_simp;rfl)) ?_;intro gb334 hg w7 hbox hb;have BK334:=aM (hbox);have GW334:=wl hg HB;have GE334:=wl hg HB;replace HB:=bs HB hb;clear hb hbox hg)|((with_reducible refine gate_dst (N:=2) rfl ?_);refine box_event rfl (N:=2) rfl (cs:=#[.string ⟨#[]⟩,.string ⟨#[]⟩]) (t:=25) (by first|(go_simp;done)|(go_simp;rfl)) ?_;intro gb335 hg w8 hbox hb;have BK335:=aM (hbox);have GW335:=wl hg HB;have GE335:=wl hg HB;have NB334_335:=nl hg BK334;have NB335_334:=nr hg BK334;replace BK334:=kb BK334 hb;replace HB:=bs HB hb;clear hb hbox hg;have hnb9:=NB334_335.out;have hnc9:=NB335_334.out;have⟨a0,a1,b0,b1⟩:=q2f BK334))
     replace BK334:=aM (yD BK334.out);replace BK335:=aM (yD BK335.out);replace HB:=aM (zD HB.out)
     refine start_ (n:=9) (S:=fun w'=>w'.cell? ⟨gb334,0,none⟩ = some (.string a0_0) ∧ w'.cell? ⟨gb334,1,none⟩ = some (.string a0_1)) (ds:=[]) #[fF,fF,fF,fF,fF,fF,fF,fF,fF] (by kernel_rfl) rfl rfl ⟨(blk_cell BK334.out 0).trans rfl,(blk_cell BK334.out 1).trans rfl⟩ (fun hHeld=>?_);refine with_tabW spec_l01Shift.tab3 spec_l01Shift.bits3 (fun HT_ HW_=>?_)
     generalize w8.drew = w11 at BK334 BK335 HB hHeld ⊢
     refine pz 12 0 #[tT,fF,fF,fF,fF,fF,fF,fF,fF] HT_ rfl rfl (by kernel_rfl) (fun _ _ _ h=>h) (by rfl) (by intro w';go_simp;with_reducible rfl) (by simp only [Act.put,sI,sZ,sS,i64_w,i32_w];rfl) ?_
     refine pz 15 3 #[tT,fF,fF,tT,fF,fF,fF,fF,fF] HT_ rfl rfl (by kernel_rfl) (fun _ _ _ h=>h) (by rfl) (by intro w';go_simp;with_reducible rfl) (by simp only [Act.put,sI,sZ,sS,i64_w,i32_w];rfl) ?_
     refine tz 13 1 #[tT,tT,fF,tT,fF,fF,fF,fF,fF] HT_ HW_ hHeld rfl rfl (by kernel_rfl) (fun _ _ _ h=>h) (by rfl) (by rintro w' ⟨s0,s1⟩;go_simp;with_reducible rfl) (by simp only [Act.put,sI,sZ,sS,i64_w,i32_w];rfl) ?_
     refine pz 14 2 #[tT,tT,tT,tT,fF,fF,fF,fF,fF] HT_ rfl rfl (by kernel_rfl) (fun _ _ _ h=>h) (by rfl) (by intro w';go_simp;with_reducible rfl) (by simp only [Act.put,sI,sZ,sS,i64_w,i32_w];rfl) ?_
     refine tz 16 4 #[tT,tT,tT,tT,tT,fF,fF,fF,fF] HT_ HW_ hHeld rfl rfl (by kernel_rfl) (fun _ _ _ h=>h) (by rfl) (by rintro w' ⟨s0,s1⟩;go_simp;with_reducible rfl) (by simp only [Act.put,sI,sZ,sS,i64_w,i32_w];rfl) ?_
     refine pz 17 5 #[tT,tT,tT,tT,tT,tT,fF,fF,fF] HT_ rfl rfl (by kernel_rfl) (fun _ _ _ h=>h) (by rfl) (by intro w';go_simp;with_reducible rfl) (by simp only [Act.put,sI,sZ,sS,i64_w,i32_w];rfl) ?_
     refine pz 18 6 #[tT,tT,tT,tT,tT,tT,tT,fF,fF] HT_ rfl rfl (by kernel_rfl) (fun _ _ _ h=>h) (by rfl) (by intro w';go_simp;with_reducible rfl) (by simp only [Act.put,sI,sZ,sS,i64_w,i32_w];rfl) ?_
     refine pz 19 7 #[tT,tT,tT,tT,tT,tT,tT,tT,fF] HT_ rfl rfl (by kernel_rfl) (fun _ _ _ h=>h) (by rfl) (by intro w';go_simp;with_reducible rfl) (by simp only [Act.put,sI,sZ,sS,i64_w,i32_w];rfl) ?_
     refine one_ (i:=8) (N:=none) #[tT,tT,tT,tT,tT,tT,tT,tT,tT] rfl rfl (one_of HT_.out (by kernel_rfl)) (by decide) (fun K hK=>?_)
     have hs12:w11.cell? ⟨gb335,0,none⟩ = some (.string ⟨#[]⟩):=(blk_cell BK335.out 0).trans rfl
     have hfs12:=blk_frozen BK335.out 0
     have hns12_0:=NB334_335.out
     have hms12_0:=NB335_334.out
     have hs13:w11.cell? ⟨gb335,1,none⟩ = some (.string ⟨#[]⟩):=(blk_cell BK335.out 1).trans rfl
     have hfs13:=blk_frozen BK335.out 1
     have hns13_0:=NB334_335.out
     have hms13_0:=NB335_334.out
     refine skip_ (w1:=?_) (by rfl) rfl ?_ ?_
     rotate_left
     ·go_simp
      rfl
     refine hK.out _ _ ⟨((cell_far (p:=⟨gb335,_,none⟩) NB334_335.out _).trans (((cell_far (p:=⟨gb335,_,none⟩) NB334_335.out _).trans (hHeld.1)))),((cell_far (p:=⟨gb335,_,none⟩) NB334_335.out _).trans (((cell_far (p:=⟨gb335,_,none⟩) NB334_335.out _).trans (hHeld.2))))⟩ (fun hHeld=>?_)
     clear hK K
     refine done_ (done_of HT_.out (by kernel_rfl)) ?_
     try go_wp2
     refine bodyPost_ret (results_cell_row rfl _ _ gb335 25 #[.string ⟨#[]⟩,.string ((a0_1.extract 1 a0_1.size) ++ (a0_1.extract 0 1))] (0,0) _ rfl (by (with_reducible repeat (first|apply yN|apply yD|apply yA));refine blk_put (cs:=#[.string ⟨#[]⟩,.string ⟨#[]⟩]) ?_ 1 _ rfl;(with_reducible repeat (first|apply yN|apply yD|apply yA));refine blk_put (cs:=#[.string ⟨#[]⟩,.string ⟨#[]⟩]) ?_ 0 _ rfl;(with_reducible repeat (first|apply yN|apply yD|apply yA));exact BK335.out) Try.underlying25 rfl (by kernel_rfl)) rfl ?_
     exact ⟨rfl,by first|exact bb HB|exact bg HB GE334|exact bg HB GE335⟩
    ·rw [if_neg c6] at H
     exact absurd H (by simp)
   ·rw [if_neg c4] at H
    exact absurd H (by simp)
  ·rw [if_neg c3] at H
   exact absurd H (by simp)
 ·rw [if_neg c2] at H
  have c2b0:(a0_0.toList == ([]:List UInt8)) = false:=beq_eq_false_iff_ne.mpr c2
  have c2b1:(a0_0.toList != ([]:List UInt8)) = true:=bne_iff_ne.mpr c2
  by_cases c14:1 ≤ (a0_0.size:Int)
  ·rw [if_pos c14] at H
   have c14b0:=eq_true c14
   have c14b1:decide (1 ≤ (a0_0.size:Int)) = true:=decide_eq_true c14
   clear c14
   simp only [Option.some.injEq,Prod.mk.injEq] at H
   obtain ⟨rfl,rfl⟩:=H
   go_enter Try.func48,Try.ntmps48
   try go_wp2_with (first|((with_reducible refine gate_dst (N:=1) rfl ?_);refine box_event rfl (N:=1) rfl (cs:=#[.string a0_0,.string a0_1]) (t:=25) (by first|(go_simp;done)|(go_simp;rfl)) ?_;intro gb334 hg w15 hbox hb;have BK334:=aM (hbox);have GW334:=wl hg HB;have GE334:=wl hg HB;replace HB:=bs HB hb;clear hb hbox hg)|((with_reducible refine gate_dst (N:=2) rfl ?_);refine box_event rfl (N:=2) rfl (cs:=#[.string ⟨#[]⟩,.string ⟨#[]⟩]) (t:=25) (by first|(go_simp;done)|(go_simp;rfl)) ?_;intro gb335 hg w16 hbox hb;have BK335:=aM (hbox);have GW335:=wl hg HB;have GE335:=wl hg HB;have NB334_335:=nl hg BK334;have NB335_334:=nr hg BK334;replace BK334:=kb BK334 hb;replace HB:=bs HB hb;clear hb hbox hg;have hnb17:=NB334_335.out;have hnc17:=NB335_334.out;have⟨a0,a1,b0,b1⟩:=q2f BK334))
   replace BK334:=aM (yD BK334.out);replace BK335:=aM (yD BK335.out);replace HB:=aM (zD HB.out)
   refine start_ (n:=7) (S:=fun w'=>w'.cell? ⟨gb334,0,none⟩ = some (.string a0_0) ∧ w'.cell? ⟨gb334,1,none⟩ = some (.string a0_1)) (ds:=[]) #[fF,fF,fF,fF,fF,fF,fF] (by kernel_rfl) rfl rfl ⟨(blk_cell BK334.out 0).trans rfl,(blk_cell BK334.out 1).trans rfl⟩ (fun hHeld=>?_)
   generalize w16.drew = w19 at BK334 BK335 HB hHeld ⊢
   refine pure_ (i:=0) (N:=some 6) (v:=?_) (a':=?_) #[tT,fF,fF,fF,fF,fF,fF] rfl rfl (by kernel_rfl) (fun _ _ _ h=>h) (Or.inl ⟨by rfl,?_⟩) ?_ ?_
   rotate_left
   ·intro w'
    go_simp
    with_reducible rfl
   rotate_left
   ·simp only [Act.put,sI,sZ,sS,i64_w,i32_w]
    rfl
   refine pure_ (i:=3) (N:=some 9) (v:=?_) (a':=?_) #[tT,fF,fF,tT,fF,fF,fF] rfl rfl (by kernel_rfl) (fun _ _ _ h=>h) (Or.inl ⟨by rfl,?_⟩) ?_ ?_
   rotate_left
   ·intro w'
    go_simp
    with_reducible rfl
   rotate_left
   ·simp only [Act.put,sI,sZ,sS,i64_w,i32_w]
    rfl
   refine take_ (i:=1) (N:=some 7) (v:=?_) (a':=?_) #[tT,tT,fF,tT,fF,fF,fF] rfl rfl (by kernel_rfl) (fun _ _ _ h=>h) (Or.inl ⟨by rfl,?_⟩) hHeld ?_ ?_
   rotate_left
   ·rintro w' ⟨s0,s1⟩
    go_simp
    with_reducible rfl
   rotate_left
   ·simp only [Act.put,sI,sZ,sS,i64_w,i32_w]
    rfl
   refine pure_ (i:=2) (N:=some 8) (v:=?_) (a':=?_) #[tT,tT,tT,tT,fF,fF,fF] rfl rfl (by kernel_rfl) (fun _ _ _ h=>h) (Or.inl ⟨by rfl,?_⟩) ?_ ?_
   rotate_left
   ·intro w'
    go_simp
    with_reducible rfl
   rotate_left
   ·simp only [Act.put,sI,sZ,sS,i64_w,i32_w]
    rfl
   refine take_ (i:=4) (N:=some 10) (v:=?_) (a':=?_) #[tT,tT,tT,tT,tT,fF,fF] rfl rfl (by kernel_rfl) (fun _ _ _ h=>h) (Or.inl ⟨by rfl,?_⟩) hHeld ?_ ?_
   rotate_left
   ·rintro w' ⟨s0,s1⟩
    go_simp
    with_reducible rfl
   rotate_left
   ·simp only [Act.put,sI,sZ,sS,i64_w,i32_w]
    rfl
   refine pure_ (i:=5) (N:=some 11) (v:=?_) (a':=?_) #[tT,tT,tT,tT,tT,tT,fF] rfl rfl (by kernel_rfl) (fun _ _ _ h=>h) (Or.inl ⟨by rfl,?_⟩) ?_ ?_
   rotate_left
   ·intro w'
    go_simp
    with_reducible rfl
   rotate_left
   ·simp only [Act.put,sI,sZ,sS,i64_w,i32_w]
    rfl
   refine one_ (i:=6) (N:=none) #[tT,tT,tT,tT,tT,tT,tT] rfl rfl (by kernel_rfl) (by decide) (fun K hK=>?_)
   have hs20:w19.cell? ⟨gb335,0,none⟩ = some (.string ⟨#[]⟩):=(blk_cell BK335.out 0).trans rfl
   have hfs20:=blk_frozen BK335.out 0
   have hns20_0:=NB334_335.out
   have hms20_0:=NB335_334.out
   have hs21:w19.cell? ⟨gb335,1,none⟩ = some (.string ⟨#[]⟩):=(blk_cell BK335.out 1).trans rfl
   have hfs21:=blk_frozen BK335.out 1
   have hns21_0:=NB334_335.out
   have hms21_0:=NB335_334.out
   refine skip_ (w1:=?_) (by rfl) rfl ?_ ?_
   rotate_left
   ·go_simp
    rfl
   refine hK.out _ _ ⟨((cell_far (p:=⟨gb335,_,none⟩) NB334_335.out _).trans (((cell_far (p:=⟨gb335,_,none⟩) NB334_335.out _).trans (hHeld.1)))),((cell_far (p:=⟨gb335,_,none⟩) NB334_335.out _).trans (((cell_far (p:=⟨gb335,_,none⟩) NB334_335.out _).trans (hHeld.2))))⟩ (fun hHeld=>?_)
   clear hK K
   refine done_ (by kernel_rfl) ?_
   try go_wp2
   refine bodyPost_ret (results_cell_row rfl _ _ gb335 25 #[.string (a0_0.extract 1 a0_0.size),.string a0_1] (0,0) _ rfl (by (with_reducible repeat (first|apply yN|apply yD|apply yA));refine blk_put (cs:=#[.string (a0_0.extract 1 a0_0.size),.string ⟨#[]⟩]) ?_ 1 _ rfl;(with_reducible repeat (first|apply yN|apply yD|apply yA));refine blk_put (cs:=#[.string ⟨#[]⟩,.string ⟨#[]⟩]) ?_ 0 _ rfl;(with_reducible repeat (first|apply yN|apply yD|apply yA));exact BK335.out) Try.underlying25 rfl (by kernel_rfl)) rfl ?_
   exact ⟨rfl,by first|exact bb HB|exact bg HB GE334|exact bg HB GE335⟩
  ·rw [if_neg c14] at H
   exact absurd H (by simp)
end Go.Proofs.Ytmhpbilkocnlnaa.Q
end
section
namespace Go.Proofs.Ytmhpbilkocnlnaa.Q
open Go.Proofs.YtmhpbilkocnlnaaW.Ext
open Go.RowKit Go.Proofs.YtmhpbilkocnlnaaW.PrintWords Go.Proofs.YtmhpbilkocnlnaaW.PrintLast Go.Proofs.YtmhpbilkocnlnaaW.PrintMore
attribute [local go_sem] max2_int min2_int max_two min_two max_three min_three max_four min_four   -- for this text's walks alone
set_option linter.unusedVariables false
set_option linter.unusedSimpArgs false
attribute [local go_sem high] eqA25
def spec_l06Point.l0:Nat → Int → ByteArray → ByteArray → ByteArray → ByteArray → ByteArray → ByteArray → Option (Bool)
 | 0,_,_,_,_,_,_,_=>none
 | k + 1,x6,x441000,x441001,x442000,x442001,x443000,x443001=>if x6 < (wrap64 ((x442000.size:Int) + (x442001.size:Int))) then ((spec_l01Shift.f x443000 x443001).bind fun bt443=>((spec_l01At.f x443000 x443001 0).bind fun t446=>(if t446 = 42 then (if (!(bt443.1.toList == x441000.toList) || (!(bt443.2.toList == x441001.toList))) = true then (some false) else (spec_l06Point.l0 k (wrap64 (x6 + 1)) x441000 x441001 x442000 x442001 bt443.1 bt443.2)) else (spec_l06Point.l0 k (wrap64 (x6 + 1)) x441000 x441001 x442000 x442001 bt443.1 bt443.2)))) else (some true)
def spec_l06Point.f (k:Nat) (a0_0:ByteArray) (a0_1:ByteArray) (a1_0:ByteArray) (a1_1:ByteArray):Option (Bool):=spec_l06Point.l0 k 0 a0_0 a0_1 a1_0 a1_1 a1_0 a1_1
theorem spec_l06Point.mono_l:∀ k,(∀ y0 y1 y2 y3 y4 y5 y6,LeO (spec_l06Point.l0 k y0 y1 y2 y3 y4 y5 y6) (spec_l06Point.l0 (k + 1) y0 y1 y2 y3 y4 y5 y6))
 | 0=>fun _ _ _ _ _ _ _ r h=>by simp [spec_l06Point.l0] at h
 | k + 1=>by
  have ih0:=spec_l06Point.mono_l k
  ·intro y0 y1 y2 y3 y4 y5 y6
   unfold spec_l06Point.l0
   repeat' first
   | (with_reducible exact ih0 _ _ _ _ _ _ _)
   | (with_reducible exact LeO.refl _)
   | (with_reducible exact LeO.none _)
   | (with_reducible refine LeO.ite ?_ ?_)
   | (with_reducible refine LeO.bind ?_ (fun _=>?_))
   | exact ih0 _ _ _ _ _ _ _
   | exact LeO.none _
   | refine LeO.ite ?_ ?_
   | refine LeO.bind ?_ (fun _=>?_)
theorem spec_l06Point.mono:∀ a0 a1 a2 a3 k,LeO (spec_l06Point.f k a0 a1 a2 a3) (spec_l06Point.f (k + 1) a0 a1 a2 a3):=by
 intro a0 a1 a2 a3 k
 have ih0:=spec_l06Point.mono_l k
 unfold spec_l06Point.f
 repeat' first
   | (with_reducible exact ih0 _ _ _ _ _ _ _)
   | (with_reducible exact LeO.refl _)
   | (with_reducible exact LeO.none _)
   | (with_reducible refine LeO.ite ?_ ?_)
   | (with_reducible refine LeO.bind ?_ (fun _=>?_))
   | exact ih0 _ _ _ _ _ _ _
   | exact LeO.none _
   | refine LeO.ite ?_ ?_
   | refine LeO.bind ?_ (fun _=>?_)
set_option maxHeartbeats 8000000 in
set_option maxRecDepth 100000 in
theorem spec_l06Point.calls (k:Nat) (a0_0:ByteArray) (a0_1:ByteArray) (a1_0:ByteArray) (a1_1:ByteArray) (r:Bool) (w:World) (h:spec_l06Point.f k a0_0 a0_1 a1_0 a1_1 = some r) :
  Calls Try.prog 25 #[.agg #[.string a0_0,.string a0_1],.agg #[.string a1_0,.string a1_1]] w fun e w'=>e = .returned (.bool r) ∧ Below w.heap.size w w':=by
 have hu25:=Try.underlying25
 have HB:=aM (Below.refl w.heap.size w)
 have H:(spec_l06Point.l0 k 0 a0_0 a0_1 a1_0 a1_1 a1_0 a1_1) = some r:=h
 clear h
 have H':=aM H
 clear H
 go_enter Try.func25,Try.ntmps25
 go_wp2_with (first|((with_reducible refine gate_dst (N:=2) rfl ?_);refine box_event rfl (N:=2) rfl (cs:=#[.string a0_0,.string a0_1]) (t:=25) (by first|(go_simp;done)|(go_simp;rfl)) ?_;intro gb440 hg w3 hbox hb;have BK440:=aM (hbox);have GW440:=wl hg HB;have GE440:=wl hg HB;replace HB:=bs HB hb;clear hb hbox hg)|((with_reducible refine gate_dst (N:=3) rfl ?_);refine box_event rfl (N:=3) rfl (cs:=#[.string a1_0,.string a1_1]) (t:=25) (by first|(go_simp;done)|(go_simp;rfl)) ?_;intro gb441 hg w4 hbox hb;have BK441:=aM (hbox);have GW441:=wl hg HB;have GE441:=wl hg HB;have NB440_441:=nl hg BK440;have NB441_440:=nr hg BK440;replace BK440:=kb BK440 hb;replace HB:=bs HB hb;clear hb hbox hg;have hnb5:=NB441_440.out;have hnc5:=NB440_441.out;have⟨a0,a1,b0,b1⟩:=q2f BK441)|((with_reducible refine gate_dst (N:=5) rfl ?_);refine box_event rfl (N:=5) rfl (cs:=#[.string ⟨#[]⟩,.string ⟨#[]⟩]) (t:=25) (by first|(go_simp;done)|(go_simp;rfl)) ?_;intro gb442 hg w7 hbox hb;have BK442:=aM (hbox);have GW442:=wl hg HB;have GE442:=wl hg HB;have NB440_442:=nl hg BK440;have NB442_440:=nr hg BK440;have NB441_442:=nl hg BK441;have NB442_441:=nr hg BK441;replace BK440:=kb BK440 hb;replace BK441:=kb BK441 hb;replace HB:=bs HB hb;clear hb hbox hg;have hnb8:=NB442_440.out;have hnc8:=NB440_442.out;have hnb9:=NB442_441.out;have hnc9:=NB441_442.out;have⟨a0,a1,b0,b1⟩:=q2f BK442))
 go_loopg [6] k (fun kq v6 w'=>∃ (x6_1:Int) (x443000_1:ByteArray) (x443001_1:ByteArray),v6 = .int .i64 x6_1 ∧ Aside0 (spec_l06Point.l0 kq x6_1 a0_0 a0_1 a1_0 a1_1 x443000_1 x443001_1 = some r) ∧ Aside0 (kq ≤ k) ∧ Aside0 (w'.heap[gb440]? = some (.cells #[.string a0_0,.string a0_1] 25 (0,0))) ∧ Aside0 (w'.heap[gb441]? = some (.cells #[.string a1_0,.string a1_1] 25 (0,0))) ∧ Aside0 (w'.heap[gb442]? = some (.cells #[.string x443000_1,.string x443001_1] 25 (0,0))) ∧ Aside0 (Below w.heap.size w w'))
 case atStart=>exact ⟨(0),(a1_0),(a1_1),(by first|rfl|(simp;done)|(simp [*];done)),H',⟨Nat.le_refl _⟩,⟨bf BK440 NB440_442⟩,⟨bf BK441 NB441_442⟩,⟨by (with_reducible repeat (first|apply yN|apply yD|apply yA));refine blk_put (cs:=#[.string a1_0,.string ⟨#[]⟩]) ?_ 1 _ rfl;(with_reducible repeat (first|apply yN|apply yD|apply yA));refine blk_put (cs:=#[.string ⟨#[]⟩,.string ⟨#[]⟩]) ?_ 0 _ rfl;(with_reducible repeat (first|apply yN|apply yD|apply yA));exact BK442.out⟩,⟨by first|exact bb HB|exact bg HB GE440|exact bg HB GE441|exact bg HB GE442⟩⟩
 case round =>
  clear H'
  try clear c2
  try clear p2
  try clear c5
  try clear c8
  try clear c9
  try clear hcz10_0
  try clear hcz10_1
  try clear hcz6_0
  try clear hcz6_1
  try clear hfz10_0
  try clear hfz10_1
  try clear hfz6_0
  try clear hfz6_1
  obtain ⟨x6_1,x443000_1,x443001_1,rfl,HA,HK1,BK440,BK441,BK442,HB⟩:=hrel
  cases gk with
  | zero=>exact absurd HA.out (by simp [spec_l06Point.l0])
  | succ k1 =>
   have H:=HA.out
   clear HA
   simp only [spec_l06Point.l0] at H
   by_cases c11:x6_1 < (wrap64 ((a1_0.size:Int) + (a1_1.size:Int)))
   ·rw [if_pos c11] at H
    have c11b0:decide (x6_1 < (wrap64 ((a1_0.size:Int) + (a1_1.size:Int)))) = true:=decide_eq_true c11
    clear c11
    replace H:=Option.bind_eq_some_iff.mp H
    obtain ⟨⟨t443,t444⟩,A120,H⟩:=H
    replace H:((spec_l01At.f x443000_1 x443001_1 0).bind fun t446=>(if t446 = 42 then (if (!(t443.toList == a0_0.toList) || (!(t444.toList == a0_1.toList))) = true then (some false) else (spec_l06Point.l0 k1 (wrap64 (x6_1 + 1)) a0_0 a0_1 a1_0 a1_1 t443 t444)) else (spec_l06Point.l0 k1 (wrap64 (x6_1 + 1)) a0_0 a0_1 a1_0 a1_1 t443 t444))) = some r:=H;have A12:=aM A120
    clear A120
    replace H:=Option.bind_eq_some_iff.mp H
    obtain ⟨t446,A130,H⟩:=H
    replace H:(if t446 = 42 then (if (!(t443.toList == a0_0.toList) || (!(t444.toList == a0_1.toList))) = true then (some false) else (spec_l06Point.l0 k1 (wrap64 (x6_1 + 1)) a0_0 a0_1 a1_0 a1_1 t443 t444)) else (spec_l06Point.l0 k1 (wrap64 (x6_1 + 1)) a0_0 a0_1 a1_0 a1_1 t443 t444)) = some r:=H;have A13:=aM A130
    clear A130
    by_cases c14:t446 = 42
    ·rw [if_pos c14] at H
     have c14b0:(t446 == 42) = true:=beq_iff_eq.mpr c14
     have c14b1:(t446 != 42) = false:=bne_eq_false_iff_eq.mpr c14
     clear c14
     by_cases c15:(!(t443.toList == a0_0.toList) || (!(t444.toList == a0_1.toList))) = true
     ·rw [if_pos c15] at H
      have c15b0:(!(t443.toList == a0_0.toList) || (!(t444.toList == a0_1.toList))) = true:=c15
      clear c15
      obtain rfl:=Option.some.inj H
      have hnb16:=NB441_440.out
      have hnc16:=NB440_441.out
      have hnb17:=NB441_442.out
      have hnc17:=NB442_441.out
      have⟨a0,a1,b0,b1⟩:=q2f BK441
      have hnb19:=NB442_440.out
      have hnc19:=NB440_442.out
      have⟨a0,a1,b0,b1⟩:=q2f BK442
      go_wp2_with (first|((with_reducible refine gate_callee (f:=48) rfl ?_);refine goesL_ (some 21) rfl rfl Try.func48 (by kernel_rfl) rfl #[.agg #[.string x443000_1,.string x443001_1]] rfl (by (try simp only [sM,sC,sN]);first|done|rfl) ?_;(with_reducible refine (spec_l01Shift.calls x443000_1 x443001_1 t443 t444 _ A12.out).mono ?_);rintro e w21 ⟨rfl,hb⟩;refine ⟨_,rfl,?_⟩;replace BK440:=kb BK440 hb;replace BK441:=kb BK441 hb;replace BK442:=kb BK442 hb;replace HB:=aM (below_step (by first|exact bb HB|exact bg HB GE440|exact bg HB GE441|exact bg HB GE442) hb);(try clear hb))|((with_reducible refine gate_dst (N:=7) rfl ?_);refine box_event rfl (N:=7) rfl (cs:=#[.string ⟨#[]⟩,.string ⟨#[]⟩]) (t:=25) (by first|(go_simp;done)|(go_simp;rfl)) ?_;intro gb445 hg w22 hbox hb;have BK445:=aM (hbox);have GW445:=aM ((by rw [hg];exact (below_size (by first|exact bb HB|exact bg HB GE440|exact bg HB GE441|exact bg HB GE442)):w.heap.size ≤ gb445));have GE445:=aM ((by rw [hg];exact (below_size (by first|exact bb HB|exact bg HB GE440|exact bg HB GE441|exact bg HB GE442)):w.heap.size ≤ gb445));have NB440_445:=nl hg BK440;have NB445_440:=nr hg BK440;have NB441_445:=nl hg BK441;have NB445_441:=nr hg BK441;have NB442_445:=nl hg BK442;have NB445_442:=nr hg BK442;replace BK440:=kb BK440 hb;replace BK441:=kb BK441 hb;replace BK442:=kb BK442 hb;replace HB:=aM (below_step (by first|exact bb HB|exact bg HB GE440|exact bg HB GE441|exact bg HB GE442) hb);clear hb hbox hg;have hnb23:=NB445_440.out;have hnc23:=NB440_445.out;have hnb24:=NB445_441.out;have hnc24:=NB441_445.out;have hnb25:=NB445_442.out;have hnc25:=NB442_445.out;have⟨a0,a1,b0,b1⟩:=q2f BK445;have⟨a0,a1,b0,b1⟩:=q2f BK442)|((with_reducible refine gate_callee (f:=49) rfl ?_);refine goesL_ (some 23) rfl rfl Try.func49 (by kernel_rfl) rfl #[.agg #[.string x443000_1,.string x443001_1],.int .i64 0] rfl (by (try simp only [sM,sC,sN]);first|done|rfl) ?_;(with_reducible refine (spec_l01At.calls x443000_1 x443001_1 0 t446 _ A13.out).mono ?_);rintro e w28 ⟨rfl,hb⟩;refine ⟨_,rfl,?_⟩;replace BK440:=kf BK440 NB440_445 hb;replace BK441:=kf BK441 NB441_445 hb;replace BK442:=kf BK442 NB442_445 hb;replace BK445:=aM (blk_below (g:=gb445) (o:=.cells #[.string t443,.string t444] 25 (0,0)) (by (with_reducible repeat (first|apply yN|apply yD|apply yA));refine blk_put (cs:=#[.string t443,.string ⟨#[]⟩]) ?_ 1 _ rfl;(with_reducible repeat (first|apply yN|apply yD|apply yA));refine blk_put (cs:=#[.string ⟨#[]⟩,.string ⟨#[]⟩]) ?_ 0 _ rfl;(with_reducible repeat (first|apply yN|apply yD|apply yA));exact BK445.out) hb);replace HB:=aM (below_step (by first|exact bb HB|exact bg HB GE440|exact bg HB GE441|exact bg HB GE442|exact bg HB GE445) hb);(try clear hb);have⟨a0,a1,b0,b1⟩:=q2f BK445;have⟨a0,a1,b0,b1⟩:=q2f BK440))
      go_ret
      exact ⟨rfl,bb HB⟩
     ·rw [if_neg c15] at H
      have c15b0:(!(t443.toList == a0_0.toList) || (!(t444.toList == a0_1.toList))) = false:=by simpa using c15
      clear c15
      have H':=aM H
      clear H
      have hnb31:=NB441_440.out
      have hnc31:=NB440_441.out
      have hnb32:=NB441_442.out
      have hnc32:=NB442_441.out
      have⟨a0,a1,b0,b1⟩:=q2f BK441
      have hnb34:=NB442_440.out
      have hnc34:=NB440_442.out
      have⟨a0,a1,b0,b1⟩:=q2f BK442
      go_wp2_with (first|((with_reducible refine gate_callee (f:=48) rfl ?_);refine goesL_ (some 21) rfl rfl Try.func48 (by kernel_rfl) rfl #[.agg #[.string x443000_1,.string x443001_1]] rfl (by (try simp only [sM,sC,sN]);first|done|rfl) ?_;(with_reducible refine (spec_l01Shift.calls x443000_1 x443001_1 t443 t444 _ A12.out).mono ?_);rintro e w36 ⟨rfl,hb⟩;refine ⟨_,rfl,?_⟩;replace BK440:=kb BK440 hb;replace BK441:=kb BK441 hb;replace BK442:=kb BK442 hb;replace HB:=aM (below_step (by first|exact bb HB|exact bg HB GE440|exact bg HB GE441|exact bg HB GE442) hb);(try clear hb))|((with_reducible refine gate_dst (N:=7) rfl ?_);refine box_event rfl (N:=7) rfl (cs:=#[.string ⟨#[]⟩,.string ⟨#[]⟩]) (t:=25) (by first|(go_simp;done)|(go_simp;rfl)) ?_;intro gb445 hg w37 hbox hb;have BK445:=aM (hbox);have GW445:=aM ((by rw [hg];exact (below_size (by first|exact bb HB|exact bg HB GE440|exact bg HB GE441|exact bg HB GE442)):w.heap.size ≤ gb445));have GE445:=aM ((by rw [hg];exact (below_size (by first|exact bb HB|exact bg HB GE440|exact bg HB GE441|exact bg HB GE442)):w.heap.size ≤ gb445));have NB440_445:=nl hg BK440;have NB445_440:=nr hg BK440;have NB441_445:=nl hg BK441;have NB445_441:=nr hg BK441;have NB442_445:=nl hg BK442;have NB445_442:=nr hg BK442;replace BK440:=kb BK440 hb;replace BK441:=kb BK441 hb;replace BK442:=kb BK442 hb;replace HB:=aM (below_step (by first|exact bb HB|exact bg HB GE440|exact bg HB GE441|exact bg HB GE442) hb);clear hb hbox hg;have hnb38:=NB445_440.out;have hnc38:=NB440_445.out;have hnb39:=NB445_441.out;have hnc39:=NB441_445.out;have hnb40:=NB445_442.out;have hnc40:=NB442_445.out;have⟨a0,a1,b0,b1⟩:=q2f BK445;have⟨a0,a1,b0,b1⟩:=q2f BK442)|((with_reducible refine gate_callee (f:=49) rfl ?_);refine goesL_ (some 23) rfl rfl Try.func49 (by kernel_rfl) rfl #[.agg #[.string x443000_1,.string x443001_1],.int .i64 0] rfl (by (try simp only [sM,sC,sN]);first|done|rfl) ?_;(with_reducible refine (spec_l01At.calls x443000_1 x443001_1 0 t446 _ A13.out).mono ?_);rintro e w43 ⟨rfl,hb⟩;refine ⟨_,rfl,?_⟩;replace BK440:=kf BK440 NB440_445 hb;replace BK441:=kf BK441 NB441_445 hb;replace BK442:=kf BK442 NB442_445 hb;replace BK445:=aM (blk_below (g:=gb445) (o:=.cells #[.string t443,.string t444] 25 (0,0)) (by (with_reducible repeat (first|apply yN|apply yD|apply yA));refine blk_put (cs:=#[.string t443,.string ⟨#[]⟩]) ?_ 1 _ rfl;(with_reducible repeat (first|apply yN|apply yD|apply yA));refine blk_put (cs:=#[.string ⟨#[]⟩,.string ⟨#[]⟩]) ?_ 0 _ rfl;(with_reducible repeat (first|apply yN|apply yD|apply yA));exact BK445.out) hb);replace HB:=aM (below_step (by first|exact bb HB|exact bg HB GE440|exact bg HB GE441|exact bg HB GE442|exact bg HB GE445) hb);(try clear hb);have⟨a0,a1,b0,b1⟩:=q2f BK445;have⟨a0,a1,b0,b1⟩:=q2f BK440;have⟨a0,a1,b0,b1⟩:=q2f BK442))
      go_roundg k1
      case measure=>have:=HK1.out;omega
      case rel=>exact ⟨(wrap64 (x6_1 + 1)),(t443),(t444),(by first|rfl|(simp;done)|(simp [*];done)),H',⟨by have:=HK1.out;omega⟩,⟨bf BK440 NB440_442⟩,⟨bf BK441 NB441_442⟩,⟨by (with_reducible repeat (first|apply yN|apply yD|apply yA));refine blk_put (cs:=#[.string t443,.string x443001_1]) ?_ 1 _ rfl;(with_reducible repeat (first|apply yN|apply yD|apply yA));refine blk_put (cs:=#[.string x443000_1,.string x443001_1]) ?_ 0 _ rfl;(with_reducible repeat (first|apply yN|apply yD|apply yA));exact BK442.out⟩,⟨by first|exact bb HB|exact bg HB GE440|exact bg HB GE441|exact bg HB GE442|exact bg HB GE445⟩⟩
    ·rw [if_neg c14] at H
     have c14b0:(t446 == 42) = false:=beq_eq_false_iff_ne.mpr c14
     have c14b1:(t446 != 42) = true:=bne_iff_ne.mpr c14
     have H':=aM H
     clear H
     have hnb47:=NB441_440.out
     have hnc47:=NB440_441.out
     have hnb48:=NB441_442.out
     have hnc48:=NB442_441.out
     have⟨a0,a1,b0,b1⟩:=q2f BK441
     have hnb50:=NB442_440.out
     have hnc50:=NB440_442.out
     have⟨a0,a1,b0,b1⟩:=q2f BK442
     go_wp2_with (first|((with_reducible refine gate_callee (f:=48) rfl ?_);refine goesL_ (some 21) rfl rfl Try.func48 (by kernel_rfl) rfl #[.agg #[.string x443000_1,.string x443001_1]] rfl (by (try simp only [sM,sC,sN]);first|done|rfl) ?_;(with_reducible refine (spec_l01Shift.calls x443000_1 x443001_1 t443 t444 _ A12.out).mono ?_);rintro e w52 ⟨rfl,hb⟩;refine ⟨_,rfl,?_⟩;replace BK440:=kb BK440 hb;replace BK441:=kb BK441 hb;replace BK442:=kb BK442 hb;replace HB:=aM (below_step (by first|exact bb HB|exact bg HB GE440|exact bg HB GE441|exact bg HB GE442) hb);(try clear hb))|((with_reducible refine gate_dst (N:=7) rfl ?_);refine box_event rfl (N:=7) rfl (cs:=#[.string ⟨#[]⟩,.string ⟨#[]⟩]) (t:=25) (by first|(go_simp;done)|(go_simp;rfl)) ?_;intro gb445 hg w53 hbox hb;have BK445:=aM (hbox);have GW445:=aM ((by rw [hg];exact (below_size (by first|exact bb HB|exact bg HB GE440|exact bg HB GE441|exact bg HB GE442)):w.heap.size ≤ gb445));have GE445:=aM ((by rw [hg];exact (below_size (by first|exact bb HB|exact bg HB GE440|exact bg HB GE441|exact bg HB GE442)):w.heap.size ≤ gb445));have NB440_445:=nl hg BK440;have NB445_440:=nr hg BK440;have NB441_445:=nl hg BK441;have NB445_441:=nr hg BK441;have NB442_445:=nl hg BK442;have NB445_442:=nr hg BK442;replace BK440:=kb BK440 hb;replace BK441:=kb BK441 hb;replace BK442:=kb BK442 hb;replace HB:=aM (below_step (by first|exact bb HB|exact bg HB GE440|exact bg HB GE441|exact bg HB GE442) hb);clear hb hbox hg;have hnb54:=NB445_440.out;have hnc54:=NB440_445.out;have hnb55:=NB445_441.out;have hnc55:=NB441_445.out;have hnb56:=NB445_442.out;have hnc56:=NB442_445.out;have⟨a0,a1,b0,b1⟩:=q2f BK445;have⟨a0,a1,b0,b1⟩:=q2f BK442)|((with_reducible refine gate_callee (f:=49) rfl ?_);refine goesL_ (some 23) rfl rfl Try.func49 (by kernel_rfl) rfl #[.agg #[.string x443000_1,.string x443001_1],.int .i64 0] rfl (by (try simp only [sM,sC,sN]);first|done|rfl) ?_;(with_reducible refine (spec_l01At.calls x443000_1 x443001_1 0 t446 _ A13.out).mono ?_);rintro e w59 ⟨rfl,hb⟩;refine ⟨_,rfl,?_⟩;replace BK440:=kf BK440 NB440_445 hb;replace BK441:=kf BK441 NB441_445 hb;replace BK442:=kf BK442 NB442_445 hb;replace BK445:=aM (blk_below (g:=gb445) (o:=.cells #[.string t443,.string t444] 25 (0,0)) (by (with_reducible repeat (first|apply yN|apply yD|apply yA));refine blk_put (cs:=#[.string t443,.string ⟨#[]⟩]) ?_ 1 _ rfl;(with_reducible repeat (first|apply yN|apply yD|apply yA));refine blk_put (cs:=#[.string ⟨#[]⟩,.string ⟨#[]⟩]) ?_ 0 _ rfl;(with_reducible repeat (first|apply yN|apply yD|apply yA));exact BK445.out) hb);replace HB:=aM (below_step (by first|exact bb HB|exact bg HB GE440|exact bg HB GE441|exact bg HB GE442|exact bg HB GE445) hb);(try clear hb);have⟨a0,a1,b0,b1⟩:=q2f BK445;have⟨a0,a1,b0,b1⟩:=q2f BK442))
     go_roundg k1
     case measure=>have:=HK1.out;omega
     case rel=>exact ⟨(wrap64 (x6_1 + 1)),(t443),(t444),(by first|rfl|(simp;done)|(simp [*];done)),H',⟨by have:=HK1.out;omega⟩,⟨bf BK440 NB440_442⟩,⟨bf BK441 NB441_442⟩,⟨by (with_reducible repeat (first|apply yN|apply yD|apply yA));refine blk_put (cs:=#[.string t443,.string x443001_1]) ?_ 1 _ rfl;(with_reducible repeat (first|apply yN|apply yD|apply yA));refine blk_put (cs:=#[.string x443000_1,.string x443001_1]) ?_ 0 _ rfl;(with_reducible repeat (first|apply yN|apply yD|apply yA));exact BK442.out⟩,⟨by first|exact bb HB|exact bg HB GE440|exact bg HB GE441|exact bg HB GE442|exact bg HB GE445⟩⟩
   ·rw [if_neg c11] at H
    have c11b0:decide (x6_1 < (wrap64 ((a1_0.size:Int) + (a1_1.size:Int)))) = false:=decide_eq_false c11
    clear c11
    obtain rfl:=Option.some.inj H
    have hnb62:=NB441_440.out
    have hnc62:=NB440_441.out
    have hnb63:=NB441_442.out
    have hnc63:=NB442_441.out
    have⟨a0,a1,b0,b1⟩:=q2f BK441
    go_wp2
    go_ret
    exact ⟨rfl,bb HB⟩
end Go.Proofs.Ytmhpbilkocnlnaa.Q
end
section
namespace Go.Proofs.Ytmhpbilkocnlnaa.Q
open Go.Proofs.YtmhpbilkocnlnaaW.Ext
open Go.RowKit Go.Proofs.YtmhpbilkocnlnaaW.PrintWords Go.Proofs.YtmhpbilkocnlnaaW.PrintLast Go.Proofs.YtmhpbilkocnlnaaW.PrintMore
attribute [local go_sem] max2_int min2_int max_two min_two max_three min_three max_four min_four   -- for this text's walks alone
set_option linter.unusedVariables false
set_option linter.unusedSimpArgs false
def impl_Sequence_shift.f (a0_0:ByteArray) (a0_1:ByteArray):Option (ByteArray × ByteArray):=if a0_0.toList = ([]:List UInt8) then (if 1 ≤ (a0_1.size:Int) then (if 0 ≤ 1 then (if (a0_1.extract 1 a0_1.size).size + (a0_1.extract 0 1).size ≤ 9223372036854775807 then (some ((⟨#[]⟩:ByteArray),(a0_1.extract 1 a0_1.size) ++ (a0_1.extract 0 1))) else (none)) else (none)) else (none)) else (if 1 ≤ (a0_0.size:Int) then (some (a0_0.extract 1 a0_0.size,a0_1)) else (none))
def impl_Sequence_shift.T3:Bool × List (List Nat × List Nat):=(true,[([],[]),([0],[0]),([1],[1]),([],[]),([3],[3]),([4],[4]),([2,5],[2,5]),([6],[6]),([7,0,1,2,3,4,5,6,7],[7])])
def impl_Sequence_shift.B3:List Nat:=[0,1,3,0,8,24,63,127,255]
theorem impl_Sequence_shift.tab3:rtab .any (opsOf Try.f45 3) = impl_Sequence_shift.T3:=by kernel_rfl
theorem impl_Sequence_shift.bits3:waitsOk impl_Sequence_shift.T3.2 impl_Sequence_shift.B3 = true:=by kernel_rfl
set_option maxHeartbeats 8000000 in
set_option maxRecDepth 100000 in
theorem impl_Sequence_shift.calls (a0_0:ByteArray) (a0_1:ByteArray) (r1:ByteArray) (r2:ByteArray) (w:World) (h:impl_Sequence_shift.f a0_0 a0_1 = some (r1,r2)) :
  Calls Try.prog 45 #[.agg #[.string a0_0,.string a0_1]] w fun e w'=>e = .returned (.agg #[.string r1,.string r2]) ∧ Below w.heap.size w w':=by
 have hu25:=Try.underlying25
 have HB:=aM (Below.refl w.heap.size w)
 have H:(if a0_0.toList = ([]:List UInt8) then (if 1 ≤ (a0_1.size:Int) then (if 0 ≤ 1 then (if (a0_1.extract 1 a0_1.size).size + (a0_1.extract 0 1).size ≤ 9223372036854775807 then (some ((⟨#[]⟩:ByteArray),(a0_1.extract 1 a0_1.size) ++ (a0_1.extract 0 1))) else (none)) else (none)) else (none)) else (if 1 ≤ (a0_0.size:Int) then (some (a0_0.extract 1 a0_0.size,a0_1)) else (none))) = some (r1,r2):=h
 clear h
 by_cases c2:a0_0.toList = ([]:List UInt8)
 ·rw [if_pos c2] at H
  have c2b0:(a0_0.toList == ([]:List UInt8)) = true:=beq_iff_eq.mpr c2
  have c2b1:(a0_0.toList != ([]:List UInt8)) = false:=bne_eq_false_iff_eq.mpr c2
  clear c2
  by_cases c3:1 ≤ (a0_1.size:Int)
  ·rw [if_pos c3] at H
   have c3b0:=eq_true c3
   have c3b1:decide (1 ≤ (a0_1.size:Int)) = true:=decide_eq_true c3
   clear c3
   by_cases c4:0 ≤ 1
   ·rw [if_pos c4] at H
    have c4b0:=eq_true c4
    have c4b1:decide (0 ≤ 1) = true:=decide_eq_true c4
    clear c4
    have c5b0:=eq_true (of_decide_eq_true (by assumption):1 ≤ (a0_1.size:Int))
    by_cases c6:(a0_1.extract 1 a0_1.size).size + (a0_1.extract 0 1).size ≤ 9223372036854775807
    ·rw [if_pos c6] at H
     have c6b0:=eq_true c6
     have c6b1:decide ((a0_1.extract 1 a0_1.size).size + (a0_1.extract 0 1).size ≤ 9223372036854775807) = true:=decide_eq_true c6
     try have c6b2:(9223372036854775807 < (a0_1.extract 1 a0_1.size).size + (a0_1.extract 0 1).size) = False:=eq_false (Nat.not_lt.2 c6)
     try (have c6b3:=c6;simp at c6b3;have c6b4:=eq_false (Nat.not_lt.2 c6b3))
     simp only [Option.some.injEq,Prod.mk.injEq] at H
     obtain ⟨rfl,rfl⟩:=H
     go_enter Try.func45,Try.ntmps45
     try go_wp2_with (first|((with_reducible refine gate_dst (N:=1) rfl ?_);refine box_event rfl (N:=1) rfl (cs:=#[.string a0_0,.string a0_1]) (t:=25) (by first|(go_simp;done)|(go_simp;rfl)) ?_;intro gb424 hg w7 hbox hb;have BK424:=aM (hbox);have GW424:=wl hg HB;have GE424:=wl hg HB;replace HB:=bs HB hb;clear hb hbox hg)|((with_reducible refine gate_dst (N:=2) rfl ?_);refine box_event rfl (N:=2) rfl (cs:=#[.string ⟨#[]⟩,.string ⟨#[]⟩]) (t:=25) (by first|(go_simp;done)|(go_simp;rfl)) ?_;intro gb425 hg w8 hbox hb;have BK425:=aM (hbox);have GW425:=wl hg HB;have GE425:=wl hg HB;have NB424_425:=nl hg BK424;have NB425_424:=nr hg BK424;replace BK424:=kb BK424 hb;replace HB:=bs HB hb;clear hb hbox hg;have hnb9:=NB424_425.out;have hnc9:=NB425_424.out;have⟨a0,a1,b0,b1⟩:=q2f BK424))
     replace BK424:=aM (yD BK424.out);replace BK425:=aM (yD BK425.out);replace HB:=aM (zD HB.out)
     refine start_ (n:=9) (S:=fun w'=>w'.cell? ⟨gb424,0,none⟩ = some (.string a0_0) ∧ w'.cell? ⟨gb424,1,none⟩ = some (.string a0_1)) (ds:=[]) #[fF,fF,fF,fF,fF,fF,fF,fF,fF] (by kernel_rfl) rfl rfl ⟨(blk_cell BK424.out 0).trans rfl,(blk_cell BK424.out 1).trans rfl⟩ (fun hHeld=>?_);refine with_tabW impl_Sequence_shift.tab3 impl_Sequence_shift.bits3 (fun HT_ HW_=>?_)
     generalize w8.drew = w11 at BK424 BK425 HB hHeld ⊢
     refine pz 12 0 #[tT,fF,fF,fF,fF,fF,fF,fF,fF] HT_ rfl rfl (by kernel_rfl) (fun _ _ _ h=>h) (by rfl) (by intro w';go_simp;with_reducible rfl) (by simp only [Act.put,sI,sZ,sS,i64_w,i32_w];rfl) ?_
     refine pz 15 3 #[tT,fF,fF,tT,fF,fF,fF,fF,fF] HT_ rfl rfl (by kernel_rfl) (fun _ _ _ h=>h) (by rfl) (by intro w';go_simp;with_reducible rfl) (by simp only [Act.put,sI,sZ,sS,i64_w,i32_w];rfl) ?_
     refine tz 13 1 #[tT,tT,fF,tT,fF,fF,fF,fF,fF] HT_ HW_ hHeld rfl rfl (by kernel_rfl) (fun _ _ _ h=>h) (by rfl) (by rintro w' ⟨s0,s1⟩;go_simp;with_reducible rfl) (by simp only [Act.put,sI,sZ,sS,i64_w,i32_w];rfl) ?_
     refine pz 14 2 #[tT,tT,tT,tT,fF,fF,fF,fF,fF] HT_ rfl rfl (by kernel_rfl) (fun _ _ _ h=>h) (by rfl) (by intro w';go_simp;with_reducible rfl) (by simp only [Act.put,sI,sZ,sS,i64_w,i32_w];rfl) ?_
     refine tz 16 4 #[tT,tT,tT,tT,tT,fF,fF,fF,fF] HT_ HW_ hHeld rfl rfl (by kernel_rfl) (fun _ _ _ h=>h) (by rfl) (by rintro w' ⟨s0,s1⟩;go_simp;with_reducible rfl) (by simp only [Act.put,sI,sZ,sS,i64_w,i32_w];rfl) ?_
     refine pz 17 5 #[tT,tT,tT,tT,tT,tT,fF,fF,fF] HT_ rfl rfl (by kernel_rfl) (fun _ _ _ h=>h) (by rfl) (by intro w';go_simp;with_reducible rfl) (by simp only [Act.put,sI,sZ,sS,i64_w,i32_w];rfl) ?_
     refine pz 18 6 #[tT,tT,tT,tT,tT,tT,tT,fF,fF] HT_ rfl rfl (by kernel_rfl) (fun _ _ _ h=>h) (by rfl) (by intro w';go_simp;with_reducible rfl) (by simp only [Act.put,sI,sZ,sS,i64_w,i32_w];rfl) ?_
     refine pz 19 7 #[tT,tT,tT,tT,tT,tT,tT,tT,fF] HT_ rfl rfl (by kernel_rfl) (fun _ _ _ h=>h) (by rfl) (by intro w';go_simp;with_reducible rfl) (by simp only [Act.put,sI,sZ,sS,i64_w,i32_w];rfl) ?_
     refine one_ (i:=8) (N:=none) #[tT,tT,tT,tT,tT,tT,tT,tT,tT] rfl rfl (one_of HT_.out (by kernel_rfl)) (by decide) (fun K hK=>?_)
     have hs12:w11.cell? ⟨gb425,0,none⟩ = some (.string ⟨#[]⟩):=(blk_cell BK425.out 0).trans rfl
     have hfs12:=blk_frozen BK425.out 0
     have hns12_0:=NB424_425.out
     have hms12_0:=NB425_424.out
     have hs13:w11.cell? ⟨gb425,1,none⟩ = some (.string ⟨#[]⟩):=(blk_cell BK425.out 1).trans rfl
     have hfs13:=blk_frozen BK425.out 1
     have hns13_0:=NB424_425.out
     have hms13_0:=NB425_424.out
     refine skip_ (w1:=?_) (by rfl) rfl ?_ ?_
     rotate_left
     ·go_simp
      rfl
     refine hK.out _ _ ⟨((cell_far (p:=⟨gb425,_,none⟩) NB424_425.out _).trans (((cell_far (p:=⟨gb425,_,none⟩) NB424_425.out _).trans (hHeld.1)))),((cell_far (p:=⟨gb425,_,none⟩) NB424_425.out _).trans (((cell_far (p:=⟨gb425,_,none⟩) NB424_425.out _).trans (hHeld.2))))⟩ (fun hHeld=>?_)
     clear hK K
     refine done_ (done_of HT_.out (by kernel_rfl)) ?_
     try go_wp2
     refine bodyPost_ret (results_cell_row rfl _ _ gb425 25 #[.string ⟨#[]⟩,.string ((a0_1.extract 1 a0_1.size) ++ (a0_1.extract 0 1))] (0,0) _ rfl (by (with_reducible repeat (first|apply yN|apply yD|apply yA));refine blk_put (cs:=#[.string ⟨#[]⟩,.string ⟨#[]⟩]) ?_ 1 _ rfl;(with_reducible repeat (first|apply yN|apply yD|apply yA));refine blk_put (cs:=#[.string ⟨#[]⟩,.string ⟨#[]⟩]) ?_ 0 _ rfl;(with_reducible repeat (first|apply yN|apply yD|apply yA));exact BK425.out) Try.underlying25 rfl (by kernel_rfl)) rfl ?_
     exact ⟨rfl,by first|exact bb HB|exact bg HB GE424|exact bg HB GE425⟩
    ·rw [if_neg c6] at H
     exact absurd H (by simp)
   ·rw [if_neg c4] at H
    exact absurd H (by simp)
  ·rw [if_neg c3] at H
   exact absurd H (by simp)
 ·rw [if_neg c2] at H
  have c2b0:(a0_0.toList == ([]:List UInt8)) = false:=beq_eq_false_iff_ne.mpr c2
  have c2b1:(a0_0.toList != ([]:List UInt8)) = true:=bne_iff_ne.mpr c2
  by_cases c14:1 ≤ (a0_0.size:Int)
  ·rw [if_pos c14] at H
   have c14b0:=eq_true c14
   have c14b1:decide (1 ≤ (a0_0.size:Int)) = true:=decide_eq_true c14
   clear c14
   simp only [Option.some.injEq,Prod.mk.injEq] at H
   obtain ⟨rfl,rfl⟩:=H
   go_enter Try.func45,Try.ntmps45
   try go_wp2_with (first|((with_reducible refine gate_dst (N:=1) rfl ?_);refine box_event rfl (N:=1) rfl (cs:=#[.string a0_0,.string a0_1]) (t:=25) (by first|(go_simp;done)|(go_simp;rfl)) ?_;intro gb424 hg w15 hbox hb;have BK424:=aM (hbox);have GW424:=wl hg HB;have GE424:=wl hg HB;replace HB:=bs HB hb;clear hb hbox hg)|((with_reducible refine gate_dst (N:=2) rfl ?_);refine box_event rfl (N:=2) rfl (cs:=#[.string ⟨#[]⟩,.string ⟨#[]⟩]) (t:=25) (by first|(go_simp;done)|(go_simp;rfl)) ?_;intro gb425 hg w16 hbox hb;have BK425:=aM (hbox);have GW425:=wl hg HB;have GE425:=wl hg HB;have NB424_425:=nl hg BK424;have NB425_424:=nr hg BK424;replace BK424:=kb BK424 hb;replace HB:=bs HB hb;clear hb hbox hg;have hnb17:=NB424_425.out;have hnc17:=NB425_424.out;have⟨a0,a1,b0,b1⟩:=q2f BK424))
   replace BK424:=aM (yD BK424.out);replace BK425:=aM (yD BK425.out);replace HB:=aM (zD HB.out)
   refine start_ (n:=7) (S:=fun w'=>w'.cell? ⟨gb424,0,none⟩ = some (.string a0_0) ∧ w'.cell? ⟨gb424,1,none⟩ = some (.string a0_1)) (ds:=[]) #[fF,fF,fF,fF,fF,fF,fF] (by kernel_rfl) rfl rfl ⟨(blk_cell BK424.out 0).trans rfl,(blk_cell BK424.out 1).trans rfl⟩ (fun hHeld=>?_)
   generalize w16.drew = w19 at BK424 BK425 HB hHeld ⊢
   refine pure_ (i:=0) (N:=some 6) (v:=?_) (a':=?_) #[tT,fF,fF,fF,fF,fF,fF] rfl rfl (by kernel_rfl) (fun _ _ _ h=>h) (Or.inl ⟨by rfl,?_⟩) ?_ ?_
   rotate_left
   ·intro w'
    go_simp
    with_reducible rfl
   rotate_left
   ·simp only [Act.put,sI,sZ,sS,i64_w,i32_w]
    rfl
   refine pure_ (i:=3) (N:=some 9) (v:=?_) (a':=?_) #[tT,fF,fF,tT,fF,fF,fF] rfl rfl (by kernel_rfl) (fun _ _ _ h=>h) (Or.inl ⟨by rfl,?_⟩) ?_ ?_
   rotate_left
   ·intro w'
    go_simp
    with_reducible rfl
   rotate_left
   ·simp only [Act.put,sI,sZ,sS,i64_w,i32_w]
    rfl
   refine take_ (i:=1) (N:=some 7) (v:=?_) (a':=?_) #[tT,tT,fF,tT,fF,fF,fF] rfl rfl (by kernel_rfl) (fun _ _ _ h=>h) (Or.inl ⟨by rfl,?_⟩) hHeld ?_ ?_
   rotate_left
   ·rintro w' ⟨s0,s1⟩
    go_simp
    with_reducible rfl
   rotate_left
   ·simp only [Act.put,sI,sZ,sS,i64_w,i32_w]
    rfl
   refine pure_ (i:=2) (N:=some 8) (v:=?_) (a':=?_) #[tT,tT,tT,tT,fF,fF,fF] rfl rfl (by kernel_rfl) (fun _ _ _ h=>h) (Or.inl ⟨by rfl,?_⟩) ?_ ?_
   rotate_left
   ·intro w'
    go_simp
    with_reducible rfl
   rotate_left
   ·simp only [Act.put,sI,sZ,sS,i64_w,i32_w]
    rfl
   refine take_ (i:=4) (N:=some 10) (v:=?_) (a':=?_) #[tT,tT,tT,tT,tT,fF,fF] rfl rfl (by kernel_rfl) (fun _ _ _ h=>h) (Or.inl ⟨by rfl,?_⟩) hHeld ?_ ?_
   rotate_left
   ·rintro w' ⟨s0,s1⟩
    go_simp
    with_reducible rfl
   rotate_left
   ·simp only [Act.put,sI,sZ,sS,i64_w,i32_w]
    rfl
   refine pure_ (i:=5) (N:=some 11) (v:=?_) (a':=?_) #[tT,tT,tT,tT,tT,tT,fF] rfl rfl (by kernel_rfl) (fun _ _ _ h=>h) (Or.inl ⟨by rfl,?_⟩) ?_ ?_
   rotate_left
   ·intro w'
    go_simp
    with_reducible rfl
   rotate_left
   ·simp only [Act.put,sI,sZ,sS,i64_w,i32_w]
    rfl
   refine one_ (i:=6) (N:=none) #[tT,tT,tT,tT,tT,tT,tT] rfl rfl (by kernel_rfl) (by decide) (fun K hK=>?_)
   have hs20:w19.cell? ⟨gb425,0,none⟩ = some (.string ⟨#[]⟩):=(blk_cell BK425.out 0).trans rfl
   have hfs20:=blk_frozen BK425.out 0
   have hns20_0:=NB424_425.out
   have hms20_0:=NB425_424.out
   have hs21:w19.cell? ⟨gb425,1,none⟩ = some (.string ⟨#[]⟩):=(blk_cell BK425.out 1).trans rfl
   have hfs21:=blk_frozen BK425.out 1
   have hns21_0:=NB424_425.out
   have hms21_0:=NB425_424.out
   refine skip_ (w1:=?_) (by rfl) rfl ?_ ?_
   rotate_left
   ·go_simp
    rfl
   refine hK.out _ _ ⟨((cell_far (p:=⟨gb425,_,none⟩) NB424_425.out _).trans (((cell_far (p:=⟨gb425,_,none⟩) NB424_425.out _).trans (hHeld.1)))),((cell_far (p:=⟨gb425,_,none⟩) NB424_425.out _).trans (((cell_far (p:=⟨gb425,_,none⟩) NB424_425.out _).trans (hHeld.2))))⟩ (fun hHeld=>?_)
   clear hK K
   refine done_ (by kernel_rfl) ?_
   try go_wp2
   refine bodyPost_ret (results_cell_row rfl _ _ gb425 25 #[.string (a0_0.extract 1 a0_0.size),.string a0_1] (0,0) _ rfl (by (with_reducible repeat (first|apply yN|apply yD|apply yA));refine blk_put (cs:=#[.string (a0_0.extract 1 a0_0.size),.string ⟨#[]⟩]) ?_ 1 _ rfl;(with_reducible repeat (first|apply yN|apply yD|apply yA));refine blk_put (cs:=#[.string ⟨#[]⟩,.string ⟨#[]⟩]) ?_ 0 _ rfl;(with_reducible repeat (first|apply yN|apply yD|apply yA));exact BK425.out) Try.underlying25 rfl (by kernel_rfl)) rfl ?_
   exact ⟨rfl,by first|exact bb HB|exact bg HB GE424|exact bg HB GE425⟩
  ·rw [if_neg c14] at H
   exact absurd H (by simp)
end Go.Proofs.Ytmhpbilkocnlnaa.Q
end
section
namespace Go.Proofs.Ytmhpbilkocnlnaa.Q
open Go.Proofs.YtmhpbilkocnlnaaW.Ext
open Go.RowKit Go.Proofs.YtmhpbilkocnlnaaW.PrintWords Go.Proofs.YtmhpbilkocnlnaaW.PrintLast Go.Proofs.YtmhpbilkocnlnaaW.PrintMore
attribute [local go_sem] max2_int min2_int max_two min_two max_three min_three max_four min_four   -- for this text's walks alone
set_option linter.unusedVariables false
set_option linter.unusedSimpArgs false
attribute [local go_sem high] eqA25
def impl_Sequence_isPoint.l0:Nat → Int → Int → ByteArray → ByteArray → ByteArray → ByteArray → Option (Bool)
 | 0,_,_,_,_,_,_=>none
 | k + 1,x12,x13,x428000,x428001,x429000,x429001=>if x13 < x12 then ((impl_Sequence_shift.f x429000 x429001).bind fun bt429=>((impl_Sequence_at.f x429000 x429001 0).bind fun t432=>(if t432 = 42 then (if (!(bt429.1.toList == x428000.toList) || (!(bt429.2.toList == x428001.toList))) = true then (some false) else (impl_Sequence_isPoint.l0 k x12 (wrap64 (x13 + 1)) x428000 x428001 bt429.1 bt429.2)) else (impl_Sequence_isPoint.l0 k x12 (wrap64 (x13 + 1)) x428000 x428001 bt429.1 bt429.2)))) else (some true)
def impl_Sequence_isPoint.f (k:Nat) (a0_0:ByteArray) (a0_1:ByteArray) (a1_0:ByteArray) (a1_1:ByteArray):Option (Bool):=impl_Sequence_isPoint.l0 k (wrap64 ((a1_0.size:Int) + (a1_1.size:Int))) 0 a0_0 a0_1 a1_0 a1_1
theorem impl_Sequence_isPoint.mono_l:∀ k,(∀ y0 y1 y2 y3 y4 y5,LeO (impl_Sequence_isPoint.l0 k y0 y1 y2 y3 y4 y5) (impl_Sequence_isPoint.l0 (k + 1) y0 y1 y2 y3 y4 y5))
 | 0=>fun _ _ _ _ _ _ r h=>by simp [impl_Sequence_isPoint.l0] at h
 | k + 1=>by
  have ih0:=impl_Sequence_isPoint.mono_l k
  ·intro y0 y1 y2 y3 y4 y5
   unfold impl_Sequence_isPoint.l0
   repeat' first
   | (with_reducible exact ih0 _ _ _ _ _ _)
   | (with_reducible exact LeO.refl _)
   | (with_reducible exact LeO.none _)
   | (with_reducible refine LeO.ite ?_ ?_)
   | (with_reducible refine LeO.bind ?_ (fun _=>?_))
   | exact ih0 _ _ _ _ _ _
   | exact LeO.none _
   | refine LeO.ite ?_ ?_
   | refine LeO.bind ?_ (fun _=>?_)
theorem impl_Sequence_isPoint.mono:∀ a0 a1 a2 a3 k,LeO (impl_Sequence_isPoint.f k a0 a1 a2 a3) (impl_Sequence_isPoint.f (k + 1) a0 a1 a2 a3):=by
 intro a0 a1 a2 a3 k
 have ih0:=impl_Sequence_isPoint.mono_l k
 unfold impl_Sequence_isPoint.f
 repeat' first
   | (with_reducible exact ih0 _ _ _ _ _ _)
   | (with_reducible exact LeO.refl _)
   | (with_reducible exact LeO.none _)
   | (with_reducible refine LeO.ite ?_ ?_)
   | (with_reducible refine LeO.bind ?_ (fun _=>?_))
   | exact ih0 _ _ _ _ _ _
   | exact LeO.none _
   | refine LeO.ite ?_ ?_
   | refine LeO.bind ?_ (fun _=>?_)
set_option maxHeartbeats 8000000 in
set_option maxRecDepth 100000 in
theorem impl_Sequence_isPoint.calls (k:Nat) (a0_0:ByteArray) (a0_1:ByteArray) (a1_0:ByteArray) (a1_1:ByteArray) (r:Bool) (w:World) (h:impl_Sequence_isPoint.f k a0_0 a0_1 a1_0 a1_1 = some r) :
  Calls Try.prog 22 #[.agg #[.string a0_0,.string a0_1],.agg #[.string a1_0,.string a1_1]] w fun e w'=>e = .returned (.bool r) ∧ Below w.heap.size w w':=by
 have hu25:=Try.underlying25
 have HB:=aM (Below.refl w.heap.size w)
 have H:(impl_Sequence_isPoint.l0 k (wrap64 ((a1_0.size:Int) + (a1_1.size:Int))) 0 a0_0 a0_1 a1_0 a1_1) = some r:=h
 clear h
 have H':=aM H
 clear H
 go_enter Try.func22,Try.ntmps22
 go_wp2_with (first|((with_reducible refine gate_dst (N:=2) rfl ?_);refine box_event rfl (N:=2) rfl (cs:=#[.string a0_0,.string a0_1]) (t:=25) (by first|(go_simp;done)|(go_simp;rfl)) ?_;intro gb427 hg w3 hbox hb;have BK427:=aM (hbox);have GW427:=wl hg HB;have GE427:=wl hg HB;replace HB:=bs HB hb;clear hb hbox hg)|((with_reducible refine gate_dst (N:=3) rfl ?_);refine box_event rfl (N:=3) rfl (cs:=#[.string a1_0,.string a1_1]) (t:=25) (by first|(go_simp;done)|(go_simp;rfl)) ?_;intro gb428 hg w4 hbox hb;have BK428:=aM (hbox);have GW428:=wl hg HB;have GE428:=wl hg HB;have NB427_428:=nl hg BK427;have NB428_427:=nr hg BK427;replace BK427:=kb BK427 hb;replace HB:=bs HB hb;clear hb hbox hg;have hnb5:=NB428_427.out;have hnc5:=NB427_428.out;have⟨a0,a1,b0,b1⟩:=q2f BK428))
 go_loopg [13] k (fun kq v13 w'=>∃ (x13_1:Int) (x429000_1:ByteArray) (x429001_1:ByteArray),v13 = .int .i64 x13_1 ∧ Aside0 (impl_Sequence_isPoint.l0 kq (wrap64 ((a1_0.size:Int) + (a1_1.size:Int))) x13_1 a0_0 a0_1 x429000_1 x429001_1 = some r) ∧ Aside0 (kq ≤ k) ∧ Aside0 (w'.heap[gb427]? = some (.cells #[.string a0_0,.string a0_1] 25 (0,0))) ∧ Aside0 (w'.heap[gb428]? = some (.cells #[.string x429000_1,.string x429001_1] 25 (0,0))) ∧ Aside0 (Below w.heap.size w w'))
 case atStart=>exact ⟨(0),(a1_0),(a1_1),(by first|rfl|(simp;done)|(simp [*];done)),H',⟨Nat.le_refl _⟩,⟨bk BK427⟩,⟨bk BK428⟩,⟨bb HB⟩⟩
 case round =>
  clear H'
  try clear c2
  try clear p2
  try clear c5
  try clear p6
  try clear hcz6_0
  try clear hcz6_1
  try clear hfz6_0
  try clear hfz6_1
  obtain ⟨x13_1,x429000_1,x429001_1,rfl,HA,HK1,BK427,BK428,HB⟩:=hrel
  cases gk with
  | zero=>exact absurd HA.out (by simp [impl_Sequence_isPoint.l0])
  | succ k1 =>
   have H:=HA.out
   clear HA
   simp only [impl_Sequence_isPoint.l0] at H
   by_cases c7:x13_1 < (wrap64 ((a1_0.size:Int) + (a1_1.size:Int)))
   ·rw [if_pos c7] at H
    have c7b0:decide (x13_1 < (wrap64 ((a1_0.size:Int) + (a1_1.size:Int)))) = true:=decide_eq_true c7
    clear c7
    replace H:=Option.bind_eq_some_iff.mp H
    obtain ⟨⟨t429,t430⟩,A80,H⟩:=H
    replace H:((impl_Sequence_at.f x429000_1 x429001_1 0).bind fun t432=>(if t432 = 42 then (if (!(t429.toList == a0_0.toList) || (!(t430.toList == a0_1.toList))) = true then (some false) else (impl_Sequence_isPoint.l0 k1 (wrap64 ((a1_0.size:Int) + (a1_1.size:Int))) (wrap64 (x13_1 + 1)) a0_0 a0_1 t429 t430)) else (impl_Sequence_isPoint.l0 k1 (wrap64 ((a1_0.size:Int) + (a1_1.size:Int))) (wrap64 (x13_1 + 1)) a0_0 a0_1 t429 t430))) = some r:=H;have A8:=aM A80
    clear A80
    replace H:=Option.bind_eq_some_iff.mp H
    obtain ⟨t432,A90,H⟩:=H
    replace H:(if t432 = 42 then (if (!(t429.toList == a0_0.toList) || (!(t430.toList == a0_1.toList))) = true then (some false) else (impl_Sequence_isPoint.l0 k1 (wrap64 ((a1_0.size:Int) + (a1_1.size:Int))) (wrap64 (x13_1 + 1)) a0_0 a0_1 t429 t430)) else (impl_Sequence_isPoint.l0 k1 (wrap64 ((a1_0.size:Int) + (a1_1.size:Int))) (wrap64 (x13_1 + 1)) a0_0 a0_1 t429 t430)) = some r:=H;have A9:=aM A90
    clear A90
    by_cases c10:t432 = 42
    ·rw [if_pos c10] at H
     have c10b0:(t432 == 42) = true:=beq_iff_eq.mpr c10
     have c10b1:(t432 != 42) = false:=bne_eq_false_iff_eq.mpr c10
     clear c10
     by_cases c11:(!(t429.toList == a0_0.toList) || (!(t430.toList == a0_1.toList))) = true
     ·rw [if_pos c11] at H
      have c11b0:(!(t429.toList == a0_0.toList) || (!(t430.toList == a0_1.toList))) = true:=c11
      clear c11
      obtain rfl:=Option.some.inj H
      have hnb12:=NB428_427.out
      have hnc12:=NB427_428.out
      have⟨a0,a1,b0,b1⟩:=q2f BK428
      go_wp2_with (first|((with_reducible refine gate_callee (f:=45) rfl ?_);refine goesL_ (some 16) rfl rfl Try.func45 (by kernel_rfl) rfl #[.agg #[.string x429000_1,.string x429001_1]] rfl (by (try simp only [sM,sC,sN]);first|done|rfl) ?_;(with_reducible refine (impl_Sequence_shift.calls x429000_1 x429001_1 t429 t430 _ A8.out).mono ?_);rintro e w14 ⟨rfl,hb⟩;refine ⟨_,rfl,?_⟩;replace BK427:=kb BK427 hb;replace BK428:=kb BK428 hb;replace HB:=aM (below_step (by first|exact bb HB|exact bg HB GE427|exact bg HB GE428) hb);(try clear hb))|((with_reducible refine gate_dst (N:=5) rfl ?_);refine box_event rfl (N:=5) rfl (cs:=#[.string ⟨#[]⟩,.string ⟨#[]⟩]) (t:=25) (by first|(go_simp;done)|(go_simp;rfl)) ?_;intro gb431 hg w15 hbox hb;have BK431:=aM (hbox);have GW431:=aM ((by rw [hg];exact (below_size (by first|exact bb HB|exact bg HB GE427|exact bg HB GE428)):w.heap.size ≤ gb431));have GE431:=aM ((by rw [hg];exact (below_size (by first|exact bb HB|exact bg HB GE427|exact bg HB GE428)):w.heap.size ≤ gb431));have NB427_431:=nl hg BK427;have NB431_427:=nr hg BK427;have NB428_431:=nl hg BK428;have NB431_428:=nr hg BK428;replace BK427:=kb BK427 hb;replace BK428:=kb BK428 hb;replace HB:=aM (below_step (by first|exact bb HB|exact bg HB GE427|exact bg HB GE428) hb);clear hb hbox hg;have hnb16:=NB431_427.out;have hnc16:=NB427_431.out;have hnb17:=NB431_428.out;have hnc17:=NB428_431.out;have⟨a0,a1,b0,b1⟩:=q2f BK431;have⟨a0,a1,b0,b1⟩:=q2f BK428)|((with_reducible refine gate_callee (f:=46) rfl ?_);refine goesL_ (some 18) rfl rfl Try.func46 (by kernel_rfl) rfl #[.agg #[.string x429000_1,.string x429001_1],.int .i64 0] rfl (by (try simp only [sM,sC,sN]);first|done|rfl) ?_;(with_reducible refine (impl_Sequence_at.calls x429000_1 x429001_1 0 t432 _ A9.out).mono ?_);rintro e w20 ⟨rfl,hb⟩;refine ⟨_,rfl,?_⟩;replace BK427:=kf BK427 NB427_431 hb;replace BK428:=kf BK428 NB428_431 hb;replace BK431:=aM (blk_below (g:=gb431) (o:=.cells #[.string t429,.string t430] 25 (0,0)) (by (with_reducible repeat (first|apply yN|apply yD|apply yA));refine blk_put (cs:=#[.string t429,.string ⟨#[]⟩]) ?_ 1 _ rfl;(with_reducible repeat (first|apply yN|apply yD|apply yA));refine blk_put (cs:=#[.string ⟨#[]⟩,.string ⟨#[]⟩]) ?_ 0 _ rfl;(with_reducible repeat (first|apply yN|apply yD|apply yA));exact BK431.out) hb);replace HB:=aM (below_step (by first|exact bb HB|exact bg HB GE427|exact bg HB GE428|exact bg HB GE431) hb);(try clear hb);have⟨a0,a1,b0,b1⟩:=q2f BK431;have⟨a0,a1,b0,b1⟩:=q2f BK427))
      go_ret
      exact ⟨rfl,bb HB⟩
     ·rw [if_neg c11] at H
      have c11b0:(!(t429.toList == a0_0.toList) || (!(t430.toList == a0_1.toList))) = false:=by simpa using c11
      clear c11
      have H':=aM H
      clear H
      have hnb23:=NB428_427.out
      have hnc23:=NB427_428.out
      have⟨a0,a1,b0,b1⟩:=q2f BK428
      go_wp2_with (first|((with_reducible refine gate_callee (f:=45) rfl ?_);refine goesL_ (some 16) rfl rfl Try.func45 (by kernel_rfl) rfl #[.agg #[.string x429000_1,.string x429001_1]] rfl (by (try simp only [sM,sC,sN]);first|done|rfl) ?_;(with_reducible refine (impl_Sequence_shift.calls x429000_1 x429001_1 t429 t430 _ A8.out).mono ?_);rintro e w25 ⟨rfl,hb⟩;refine ⟨_,rfl,?_⟩;replace BK427:=kb BK427 hb;replace BK428:=kb BK428 hb;replace HB:=aM (below_step (by first|exact bb HB|exact bg HB GE427|exact bg HB GE428) hb);(try clear hb))|((with_reducible refine gate_dst (N:=5) rfl ?_);refine box_event rfl (N:=5) rfl (cs:=#[.string ⟨#[]⟩,.string ⟨#[]⟩]) (t:=25) (by first|(go_simp;done)|(go_simp;rfl)) ?_;intro gb431 hg w26 hbox hb;have BK431:=aM (hbox);have GW431:=aM ((by rw [hg];exact (below_size (by first|exact bb HB|exact bg HB GE427|exact bg HB GE428)):w.heap.size ≤ gb431));have GE431:=aM ((by rw [hg];exact (below_size (by first|exact bb HB|exact bg HB GE427|exact bg HB GE428)):w.heap.size ≤ gb431));have NB427_431:=nl hg BK427;have NB431_427:=nr hg BK427;have NB428_431:=nl hg BK428;have NB431_428:=nr hg BK428;replace BK427:=kb BK427 hb;replace BK428:=kb BK428 hb;replace HB:=aM (below_step (by first|exact bb HB|exact bg HB GE427|exact bg HB GE428) hb);clear hb hbox hg;have hnb27:=NB431_427.out;have hnc27:=NB427_431.out;have hnb28:=NB431_428.out;have hnc28:=NB428_431.out;have⟨a0,a1,b0,b1⟩:=q2f BK431;have⟨a0,a1,b0,b1⟩:=q2f BK428)|((with_reducible refine gate_callee (f:=46) rfl ?_);refine goesL_ (some 18) rfl rfl Try.func46 (by kernel_rfl) rfl #[.agg #[.string x429000_1,.string x429001_1],.int .i64 0] rfl (by (try simp only [sM,sC,sN]);first|done|rfl) ?_;(with_reducible refine (impl_Sequence_at.calls x429000_1 x429001_1 0 t432 _ A9.out).mono ?_);rintro e w31 ⟨rfl,hb⟩;refine ⟨_,rfl,?_⟩;replace BK427:=kf BK427 NB427_431 hb;replace BK428:=kf BK428 NB428_431 hb;replace BK431:=aM (blk_below (g:=gb431) (o:=.cells #[.string t429,.string t430] 25 (0,0)) (by (with_reducible repeat (first|apply yN|apply yD|apply yA));refine blk_put (cs:=#[.string t429,.string ⟨#[]⟩]) ?_ 1 _ rfl;(with_reducible repeat (first|apply yN|apply yD|apply yA));refine blk_put (cs:=#[.string ⟨#[]⟩,.string ⟨#[]⟩]) ?_ 0 _ rfl;(with_reducible repeat (first|apply yN|apply yD|apply yA));exact BK431.out) hb);replace HB:=aM (below_step (by first|exact bb HB|exact bg HB GE427|exact bg HB GE428|exact bg HB GE431) hb);(try clear hb);have⟨a0,a1,b0,b1⟩:=q2f BK431;have⟨a0,a1,b0,b1⟩:=q2f BK427;have⟨a0,a1,b0,b1⟩:=q2f BK428))
      go_roundg k1
      case measure=>have:=HK1.out;omega
      case rel=>exact ⟨(wrap64 (x13_1 + 1)),(t429),(t430),(by first|rfl|(simp;done)|(simp [*];done)),H',⟨by have:=HK1.out;omega⟩,⟨bf BK427 NB427_428⟩,⟨by (with_reducible repeat (first|apply yN|apply yD|apply yA));refine blk_put (cs:=#[.string t429,.string x429001_1]) ?_ 1 _ rfl;(with_reducible repeat (first|apply yN|apply yD|apply yA));refine blk_put (cs:=#[.string x429000_1,.string x429001_1]) ?_ 0 _ rfl;(with_reducible repeat (first|apply yN|apply yD|apply yA));exact BK428.out⟩,⟨by first|exact bb HB|exact bg HB GE427|exact bg HB GE428|exact bg HB GE431⟩⟩
    ·rw [if_neg c10] at H
     have c10b0:(t432 == 42) = false:=beq_eq_false_iff_ne.mpr c10
     have c10b1:(t432 != 42) = true:=bne_iff_ne.mpr c10
     have H':=aM H
     clear H
     have hnb35:=NB428_427.out
     have hnc35:=NB427_428.out
     have⟨a0,a1,b0,b1⟩:=q2f BK428
     go_wp2_with (first|((with_reducible refine gate_callee (f:=45) rfl ?_);refine goesL_ (some 16) rfl rfl Try.func45 (by kernel_rfl) rfl #[.agg #[.string x429000_1,.string x429001_1]] rfl (by (try simp only [sM,sC,sN]);first|done|rfl) ?_;(with_reducible refine (impl_Sequence_shift.calls x429000_1 x429001_1 t429 t430 _ A8.out).mono ?_);rintro e w37 ⟨rfl,hb⟩;refine ⟨_,rfl,?_⟩;replace BK427:=kb BK427 hb;replace BK428:=kb BK428 hb;replace HB:=aM (below_step (by first|exact bb HB|exact bg HB GE427|exact bg HB GE428) hb);(try clear hb))|((with_reducible refine gate_dst (N:=5) rfl ?_);refine box_event rfl (N:=5) rfl (cs:=#[.string ⟨#[]⟩,.string ⟨#[]⟩]) (t:=25) (by first|(go_simp;done)|(go_simp;rfl)) ?_;intro gb431 hg w38 hbox hb;have BK431:=aM (hbox);have GW431:=aM ((by rw [hg];exact (below_size (by first|exact bb HB|exact bg HB GE427|exact bg HB GE428)):w.heap.size ≤ gb431));have GE431:=aM ((by rw [hg];exact (below_size (by first|exact bb HB|exact bg HB GE427|exact bg HB GE428)):w.heap.size ≤ gb431));have NB427_431:=nl hg BK427;have NB431_427:=nr hg BK427;have NB428_431:=nl hg BK428;have NB431_428:=nr hg BK428;replace BK427:=kb BK427 hb;replace BK428:=kb BK428 hb;replace HB:=aM (below_step (by first|exact bb HB|exact bg HB GE427|exact bg HB GE428) hb);clear hb hbox hg;have hnb39:=NB431_427.out;have hnc39:=NB427_431.out;have hnb40:=NB431_428.out;have hnc40:=NB428_431.out;have⟨a0,a1,b0,b1⟩:=q2f BK431;have⟨a0,a1,b0,b1⟩:=q2f BK428)|((with_reducible refine gate_callee (f:=46) rfl ?_);refine goesL_ (some 18) rfl rfl Try.func46 (by kernel_rfl) rfl #[.agg #[.string x429000_1,.string x429001_1],.int .i64 0] rfl (by (try simp only [sM,sC,sN]);first|done|rfl) ?_;(with_reducible refine (impl_Sequence_at.calls x429000_1 x429001_1 0 t432 _ A9.out).mono ?_);rintro e w43 ⟨rfl,hb⟩;refine ⟨_,rfl,?_⟩;replace BK427:=kf BK427 NB427_431 hb;replace BK428:=kf BK428 NB428_431 hb;replace BK431:=aM (blk_below (g:=gb431) (o:=.cells #[.string t429,.string t430] 25 (0,0)) (by (with_reducible repeat (first|apply yN|apply yD|apply yA));refine blk_put (cs:=#[.string t429,.string ⟨#[]⟩]) ?_ 1 _ rfl;(with_reducible repeat (first|apply yN|apply yD|apply yA));refine blk_put (cs:=#[.string ⟨#[]⟩,.string ⟨#[]⟩]) ?_ 0 _ rfl;(with_reducible repeat (first|apply yN|apply yD|apply yA));exact BK431.out) hb);replace HB:=aM (below_step (by first|exact bb HB|exact bg HB GE427|exact bg HB GE428|exact bg HB GE431) hb);(try clear hb);have⟨a0,a1,b0,b1⟩:=q2f BK431;have⟨a0,a1,b0,b1⟩:=q2f BK428))
     go_roundg k1
     case measure=>have:=HK1.out;omega
     case rel=>exact ⟨(wrap64 (x13_1 + 1)),(t429),(t430),(by first|rfl|(simp;done)|(simp [*];done)),H',⟨by have:=HK1.out;omega⟩,⟨bf BK427 NB427_428⟩,⟨by (with_reducible repeat (first|apply yN|apply yD|apply yA));refine blk_put (cs:=#[.string t429,.string x429001_1]) ?_ 1 _ rfl;(with_reducible repeat (first|apply yN|apply yD|apply yA));refine blk_put (cs:=#[.string x429000_1,.string x429001_1]) ?_ 0 _ rfl;(with_reducible repeat (first|apply yN|apply yD|apply yA));exact BK428.out⟩,⟨by first|exact bb HB|exact bg HB GE427|exact bg HB GE428|exact bg HB GE431⟩⟩
   ·rw [if_neg c7] at H
    have c7b0:decide (x13_1 < (wrap64 ((a1_0.size:Int) + (a1_1.size:Int)))) = false:=decide_eq_false c7
    clear c7
    obtain rfl:=Option.some.inj H
    go_wp2
    go_ret
    exact ⟨rfl,bb HB⟩
end Go.Proofs.Ytmhpbilkocnlnaa.Q
end
section
namespace Go.Proofs.Ytmhpbilkocnlnaa.Q
open Go.RowKit Go.Proofs.YtmhpbilkocnlnaaW.PrintWords Go.Proofs.YtmhpbilkocnlnaaW.PrintLast Go.Proofs.YtmhpbilkocnlnaaW.Ext
set_option linter.unusedVariables false
set_option linter.unusedSimpArgs false
theorem shift_val (x y : ByteArray) (hy : 1 ≤ y.size) (h : x.size + y.size ≤ 64) : ∃ v : ByteArray × ByteArray, spec_l01Shift.f x y = some v ∧ v.1.size + v.2.size ≤ 64 ∧ 1 ≤ v.2.size := by
  unfold spec_l01Shift.f
  by_cases hz : x.size = 0
  · have e : (y.extract 1 y.size ++ y.extract 0 1).size = y.size := by
      simp
      omega
    have e2 := e
    rw [ByteArray.size_append] at e2
    rw [if_pos ((nil_iff x).2 hz), if_pos (by omega), if_pos (by omega), if_pos (by omega)]
    exact ⟨_, rfl, by show (⟨#[]⟩ : ByteArray).size + _ ≤ 64; rw [e]; show 0 + y.size ≤ 64; omega, by show 1 ≤ _; rw [e]; exact hy⟩
  · rw [if_neg (fun z => hz ((nil_iff x).1 z)), if_pos (by omega)]
    refine ⟨_, rfl, ?_, hy⟩
    show (x.extract 1 x.size).size + y.size ≤ 64
    have : (x.extract 1 x.size).size ≤ x.size := by simp
    omega
theorem shift_val' {x y : ByteArray} {v : ByteArray × ByteArray} (h : spec_l01Shift.f x y = some v) : impl_Sequence_shift.f x y = some v := h
theorem both_point (p q a b : ByteArray) (hb : 1 ≤ b.size) (h64 : a.size + b.size ≤ 64) : ∃ r : Bool, Ev (fun k => spec_l06Point.f k p q a b) r ∧ Ev (fun k => impl_Sequence_isPoint.f k p q a b) r := by
  have key : ∀ (d i : Nat) (x y : ByteArray), i + d = a.size + b.size → 1 ≤ y.size → x.size + y.size ≤ 64 →
      ∃ r : Bool, Ev (fun k => spec_l06Point.l0 k (i : Int) p q a b x y) r ∧ Ev (fun k => impl_Sequence_isPoint.l0 k ((a.size : Int) + (b.size : Int)) (i : Int) p q x y) r := by
    intro d
    induction d with
    | zero =>
      intro i x y h _ _
      exact ⟨true, Ev.step (f := fun _ => some true) (fun k => by rw [spec_l06Point.l0, wrS (x := (a.size : Int) + (b.size : Int)) (by omega) (by omega), if_neg (by omega)]) (Ev.now _), Ev.step (f := fun _ => some true) (fun k => by rw [impl_Sequence_isPoint.l0, if_neg (by omega)]) (Ev.now _)⟩
    | succ d ih =>
      intro i x y h hy hxy
      obtain ⟨v, v1, v2, v3⟩ := shift_val x y hy hxy
      obtain ⟨r, r1, r2⟩ := ih (i + 1) v.1 v.2 (by omega) v3 v2
      have ea := at_val x y 0 hy (by omega) (by omega)
      have ea' := at_val' x y 0 hy (by omega) (by omega)
      have es : ∀ k, spec_l06Point.l0 (k + 1) (i : Int) p q a b x y = if atV x y 0 = 42 then (if (!(v.1.toList == p.toList) || (!(v.2.toList == q.toList))) = true then some false else spec_l06Point.l0 k ((i + 1 : Nat) : Int) p q a b v.1 v.2) else spec_l06Point.l0 k ((i + 1 : Nat) : Int) p q a b v.1 v.2 := by
        intro k
        rw [spec_l06Point.l0, wrS (x := (a.size : Int) + (b.size : Int)) (by omega) (by omega), if_pos (by omega), v1, Option.bind_some, show (0 : Int) = ((0 : Nat) : Int) from rfl, ea, Option.bind_some, wrS (x := (i : Int) + 1) (by omega) (by omega)]
        rfl
      have ei : ∀ k, impl_Sequence_isPoint.l0 (k + 1) ((a.size : Int) + (b.size : Int)) (i : Int) p q x y = if atV x y 0 = 42 then (if (!(v.1.toList == p.toList) || (!(v.2.toList == q.toList))) = true then some false else impl_Sequence_isPoint.l0 k ((a.size : Int) + (b.size : Int)) ((i + 1 : Nat) : Int) p q v.1 v.2) else impl_Sequence_isPoint.l0 k ((a.size : Int) + (b.size : Int)) ((i + 1 : Nat) : Int) p q v.1 v.2 := by
        intro k
        rw [impl_Sequence_isPoint.l0, if_pos (by omega), shift_val' v1, Option.bind_some, show (0 : Int) = ((0 : Nat) : Int) from rfl, ea', Option.bind_some, wrS (x := (i : Int) + 1) (by omega) (by omega)]
        rfl
      by_cases h1 : atV x y 0 = 42
      · by_cases h2 : (!(v.1.toList == p.toList) || (!(v.2.toList == q.toList))) = true
        · exact ⟨false, Ev.step (f := fun _ => some false) (fun k => by rw [es k, if_pos h1, if_pos h2]) (Ev.now _), Ev.step (f := fun _ => some false) (fun k => by rw [ei k, if_pos h1, if_pos h2]) (Ev.now _)⟩
        · exact ⟨r, Ev.step (fun k => by rw [es k, if_pos h1, if_neg h2]) r1, Ev.step (fun k => by rw [ei k, if_pos h1, if_neg h2]) r2⟩
      · exact ⟨r, Ev.step (fun k => by rw [es k, if_neg h1]) r1, Ev.step (fun k => by rw [ei k, if_neg h1]) r2⟩
  obtain ⟨r, r1, r2⟩ := key (a.size + b.size) 0 a b (by omega) hb h64
  refine ⟨r, r1, ?_⟩
  unfold impl_Sequence_isPoint.f
  rw [wrS (by omega) (by omega)]
  exact r2
def sh (s : ByteArray × ByteArray) : ByteArray × ByteArray :=
  if s.1.size = 0 then (⟨#[]⟩, s.2.extract 1 s.2.size ++ s.2.extract 0 1) else (s.1.extract 1 s.1.size, s.2)
theorem shift_eq (x y : ByteArray) (hy : 1 ≤ y.size) (h : x.size + y.size ≤ 64) : spec_l01Shift.f x y = some (sh (x, y)) := by
  unfold spec_l01Shift.f sh
  by_cases hz : x.size = 0
  · have e : (y.extract 1 y.size ++ y.extract 0 1).size = y.size := by
      simp
      omega
    have e2 := e
    rw [ByteArray.size_append] at e2
    rw [if_pos ((nil_iff x).2 hz), if_pos (by omega), if_pos (by omega), if_pos (by omega), if_pos hz]
  · rw [if_neg (fun z => hz ((nil_iff x).1 z)), if_pos (by omega), if_neg hz]
def shN : Nat → ByteArray × ByteArray → ByteArray × ByteArray
  | 0, s => s
  | n + 1, s => shN n (sh s)
theorem shN_add : ∀ m n s, shN (m + n) s = shN n (shN m s)
  | 0, n, s => by rw [Nat.zero_add]; rfl
  | m + 1, n, s => by rw [Nat.succ_add]; exact shN_add m n (sh s)
theorem shN_succ (n : Nat) (s : ByteArray × ByteArray) : shN (n + 1) s = sh (shN n s) := shN_add n 1 s
structure Val (s : ByteArray × ByteArray) : Prop where
  a : lettersB s.1 = true
  b : lettersB s.2 = true
  one : 1 ≤ s.2.size
  le : s.1.size + s.2.size ≤ 64
  cn : Cn s.1 s.2
theorem ext_data {x y : ByteArray} (h : x.data.toList = y.data.toList) : x = y := by
  cases x; cases y
  simp only [ByteArray.mk.injEq]
  exact Array.ext' h
theorem extract_list (s : ByteArray) (a b : Nat) : (s.extract a b).data.toList = (s.data.toList.drop a).take (b - a) := by
  simp [List.extract]
theorem append_list (a b : ByteArray) : (a ++ b).data.toList = a.data.toList ++ b.data.toList := by simp
theorem letters_extract {s : ByteArray} (h : lettersB s = true) (a b : Nat) : lettersB (s.extract a b) = true := by
  unfold lettersB bytesOf at *
  rw [List.all_eq_true] at *
  intro x hx
  apply h
  rw [extract_list] at hx
  obtain ⟨u, hu, rfl⟩ := List.mem_map.1 hx
  exact List.mem_map.2 ⟨u, List.mem_of_mem_drop (List.mem_of_mem_take hu), rfl⟩
theorem sh_sizes (s : ByteArray × ByteArray) (h : 1 ≤ s.2.size) : (sh s).1.size ≤ s.1.size - 1 ∧ (sh s).2.size = s.2.size := by
  unfold sh
  split
  · rename_i hz
    refine ⟨Nat.zero_le _, ?_⟩
    show (s.2.extract 1 s.2.size ++ s.2.extract 0 1).size = s.2.size
    rw [ByteArray.size_append, ByteArray.size_extract, ByteArray.size_extract]
    omega
  · simp
theorem val_sh {s : ByteArray × ByteArray} (h : Val s) : Val (sh s) := by
  have hs := sh_sizes s h.one
  refine ⟨?_, ?_, by have := h.one; omega, by have := h.le; omega, ?_⟩
  · unfold sh
    split
    · rfl
    · exact letters_extract h.a _ _
  · unfold sh
    split
    · rw [letters_append, letters_extract h.b, letters_extract h.b]; rfl
    · exact h.b
  · unfold sh
    split
    · exact .inl rfl
    · rename_i hz
      rcases h.cn with hc | hc
      · exact absurd hc hz
      · by_cases h1 : s.1.size = 1
        · left
          simp [h1]
        · right
          have hsz : (s.1.extract 1 s.1.size).size = s.1.size - 1 := by simp
          intro e
          apply hc
          rw [← e]
          show _ = bt (s.1.extract 1 s.1.size) (((s.1.extract 1 s.1.size).size - 1 : Nat) : Int)
          rw [hsz, bt_eq _ _ _ _ (by omega) (by rw [hsz]; omega), extract_list, List.getElem?_take_of_lt (by omega), List.getElem?_drop]
          congr 1
          omega
theorem sh_turn (l : List UInt8) (y : ByteArray) (i : Nat) (hi : i < l.length) (hy : y.data.toList = l.drop i ++ l.take i) : (sh (⟨#[]⟩, y)).1 = ⟨#[]⟩ ∧ (sh (⟨#[]⟩, y)).2.data.toList = l.drop (i + 1) ++ l.take (i + 1) := by
  have hsz : y.size = l.length := by
    have e : y.size = y.data.toList.length := (Array.length_toList (xs := y.data)).symm
    rw [e, hy, List.length_append, List.length_drop, List.length_take]
    omega
  unfold sh
  rw [if_pos (show (((⟨#[]⟩ : ByteArray), y) : ByteArray × ByteArray).1.size = 0 from rfl)]
  refine ⟨rfl, ?_⟩
  show (y.extract 1 y.size ++ y.extract 0 1).data.toList = _
  rw [append_list, extract_list, extract_list, hy, hsz]
  have e1 : l.drop i = l[i] :: l.drop (i + 1) := by rw [List.drop_eq_getElem_cons hi]
  rw [e1]
  simp only [List.cons_append, List.drop_succ_cons, List.drop_zero, Nat.sub_zero, List.take_succ_cons, List.take_zero]
  rw [List.take_of_length_le (by simp; omega), List.append_assoc]
  congr 1
  rw [List.take_add_one, List.getElem?_eq_getElem hi]
  rfl
theorem shN_turn (y : ByteArray) : ∀ i, i ≤ y.size → (shN i (⟨#[]⟩, y)).1 = ⟨#[]⟩ ∧ (shN i (⟨#[]⟩, y)).2.data.toList = y.data.toList.drop i ++ y.data.toList.take i
  | 0, _ => by simp [shN]
  | i + 1, h => by
    obtain ⟨h1, h2⟩ := shN_turn y i (by omega)
    rw [shN_succ]
    have e : shN i (⟨#[]⟩, y) = (⟨#[]⟩, (shN i (⟨#[]⟩, y)).2) := Prod.ext h1 rfl
    rw [e]
    exact sh_turn _ _ i (by rw [Array.length_toList]; exact h) h2
theorem shN_round (y : ByteArray) : shN y.size (⟨#[]⟩, y) = (⟨#[]⟩, y) := by
  obtain ⟨h1, h2⟩ := shN_turn y y.size (Nat.le_refl _)
  refine Prod.ext h1 (ext_data ?_)
  have e : y.data.toList.length = y.size := Array.length_toList (xs := y.data)
  rw [h2, List.drop_of_length_le (by omega), List.take_of_length_le (by omega)]
  rfl
theorem shN_pre : ∀ n x y, x.size = n → (shN n (x, y)) = (⟨#[]⟩, y)
  | 0, x, y, h => by
    refine Prod.ext (ext_data ?_) rfl
    have e : x.data.toList.length = x.size := Array.length_toList (xs := x.data)
    have : x.data.toList.length = 0 := by omega
    show x.data.toList = _
    rw [List.length_eq_zero_iff.1 this]
  | n + 1, x, y, h => by
    have e : sh (x, y) = (x.extract 1 x.size, y) := by unfold sh; rw [if_neg (by show ¬ x.size = 0; omega)]
    show shN n (sh (x, y)) = _
    rw [e]
    exact shN_pre n _ y (by simp; omega)
theorem shN_again (x y : ByteArray) (j : Nat) : shN (x.size + y.size + j) (x, y) = shN (x.size + j) (x, y) := by
  rw [Nat.add_assoc, shN_add, shN_pre _ x y rfl, shN_add, shN_round, shN_add, shN_pre _ x y rfl]
def star (s : ByteArray × ByteArray) : Prop := atV s.1 s.2 0 = 42
def Pt (v s : ByteArray × ByteArray) : Prop := ∀ j, star (shN j s) → sh (shN j s) = v
theorem Pt.sh' {v s : ByteArray × ByteArray} (h : Pt v s) : Pt v (sh s) := fun j => h (j + 1)
theorem pt_of {v s : ByteArray × ByteArray} (h1 : 1 ≤ s.2.size) (h : ∀ j, j < s.1.size + s.2.size → star (shN j s) → sh (shN j s) = v) : Pt v s := by
  intro j
  induction j using Nat.strongRecOn with
  | _ j ih =>
    by_cases hj : j < s.1.size + s.2.size
    · exact h j hj
    · have e := shN_again s.1 s.2 (j - (s.1.size + s.2.size))
      rw [show s.1.size + s.2.size + (j - (s.1.size + s.2.size)) = j by omega] at e
      rw [show (s.1, s.2) = s from rfl] at e
      rw [e]
      exact ih _ (by omega)
theorem star_one {v s t : ByteArray × ByteArray} (hs : Val s) (ht : Val t) (es : sh s = v) (et : sh t = v) (ss : star s) (st : star t) (hv : v.1.size = 0) (hv2 : bt v.2 ((v.2.size - 1 : Nat) : Int) = 42) : s = t := by
  have key : ∀ u : ByteArray × ByteArray, Val u → sh u = v → star u → u.1.size = 0 ∧ u.2.data.toList = 42 :: (v.2.data.toList.take (v.2.size - 1)) := by
    intro u hu eu su
    by_cases hz : u.1.size = 0
    · refine ⟨hz, ?_⟩
      have e : v.2 = u.2.extract 1 u.2.size ++ u.2.extract 0 1 := by rw [← eu]; unfold sh; rw [if_pos hz]
      have hsz : v.2.size = u.2.size := by rw [← eu]; exact (sh_sizes u hu.one).2
      have hlen : u.2.data.toList.length = u.2.size := Array.length_toList (xs := u.2.data)
      have h1 := hu.one
      have s0 : bt u.2 ((0 : Nat) : Int) = 42 := by
        have := su
        unfold star atV at this
        rw [if_neg (by omega), hz, Nat.sub_zero, Nat.zero_mod] at this
        exact this
      rw [hsz, e, append_list, extract_list, extract_list]
      cases hl : u.2.data.toList with
      | nil => rw [hl] at hlen; simp at hlen; omega
      | cons a l =>
        have ha : a = 42 := by
          have := (bt_star u.2 0 (by omega)).1 s0
          rw [hl] at this
          exact Option.some.inj this
        subst ha
        rw [hl] at hlen
        simp only [List.length_cons] at hlen
        simp only [List.drop_succ_cons, List.drop_zero, Nat.sub_zero, List.take_succ_cons, List.take_zero]
        have tl : l.take (u.2.size - 1) = l := List.take_of_length_le (by omega)
        rw [tl, List.take_append_of_le_length (by omega), tl]
    · exfalso
      have e : v = (u.1.extract 1 u.1.size, u.2) := by rw [← eu]; unfold sh; rw [if_neg hz]
      have h1 : u.1.size = 1 := by
        have : v.1.size = u.1.size - 1 := by rw [e]; simp
        omega
      rcases hu.cn with hc | hc
      · exact hz hc
      · apply hc
        have e2 : v.2 = u.2 := by rw [e]
        rw [← e2, hv2, h1]
        have := su
        unfold star atV at this
        rw [if_pos (by omega)] at this
        exact this
  obtain ⟨a1, a2⟩ := key s hs es ss
  obtain ⟨b1, b2⟩ := key t ht et st
  refine Prod.ext (ext_data ?_) (ext_data (a2.trans b2.symm))
  have e1 : s.1.data.toList.length = s.1.size := Array.length_toList (xs := s.1.data)
  have e2 : t.1.data.toList.length = t.1.size := Array.length_toList (xs := t.1.data)
  rw [List.length_eq_zero_iff.1 (show s.1.data.toList.length = 0 by omega), List.length_eq_zero_iff.1 (show t.1.data.toList.length = 0 by omega)]
end Go.Proofs.Ytmhpbilkocnlnaa.Q
end
section
namespace Go.Proofs.Ytmhpbilkocnlnaa.Q
open Go.Proofs.YtmhpbilkocnlnaaW.Ext
open Go.RowKit Go.Proofs.YtmhpbilkocnlnaaW.PrintWords Go.Proofs.YtmhpbilkocnlnaaW.PrintLast Go.Proofs.YtmhpbilkocnlnaaW.PrintMore
attribute [local go_sem] max2_int min2_int max_two min_two max_three min_three max_four min_four   -- for this text's walks alone
set_option linter.unusedVariables false
set_option linter.unusedSimpArgs false
section
def voteStep (i x:Int) (s:Int × Int × Int):Int × Int × Int:=if x = 48 then (s.1 + 1,s.2.1,s.2.2) else if x = 49 then (s.1,s.2.1 + 1,s.2.2) else (s.1,s.2.1,i)
def voteAt (x0 x1 x2:Int) (i:Int):Int × Int × Int:=if i = 0 then (0,0,-1) else if i = 1 then voteStep 0 x0 (0,0,-1) else if i = 2 then voteStep 1 x1 (voteStep 0 x0 (0,0,-1)) else voteStep 2 x2 (voteStep 1 x1 (voteStep 0 x0 (0,0,-1)))
def voteEnd (s:Int × Int × Int):Int × Int:=if s.1 > 1 then (48,-1) else if s.2.1 > 1 then (49,-1) else (0,s.2.2)
def impl_three_vote.f (a0_0 a0_1 a0_2 a0_3 a0_4 a0_5:ByteArray):Option (Int × Int) :=
 (impl_Sequence_at.f a0_0 a0_1 0).bind fun x0=>(impl_Sequence_at.f a0_2 a0_3 0).bind fun x1=>(impl_Sequence_at.f a0_4 a0_5 0).bind fun x2=>some (voteEnd (voteAt x0 x1 x2 3))
set_option maxHeartbeats 4000000 in
set_option maxRecDepth 100000 in
theorem impl_three_vote.calls (a0_0 a0_1 a0_2 a0_3 a0_4 a0_5:ByteArray) (r1 r2:Int) (w:World) (h:impl_three_vote.f a0_0 a0_1 a0_2 a0_3 a0_4 a0_5 = some (r1,r2)) :
  Calls Try.prog 53 #[.agg #[.string a0_0,.string a0_1,.string a0_2,.string a0_3,.string a0_4,.string a0_5]] w fun e w'=>e = .returned (.tuple #[.int .u8 r1,.int .i64 r2]) ∧ Below w.heap.size w w':=by
 unfold impl_three_vote.f at h
 obtain ⟨x0,h0,h⟩:=Option.bind_eq_some_iff.1 h
 obtain ⟨x1,h1,h⟩:=Option.bind_eq_some_iff.1 h
 obtain ⟨x2,h2,h⟩:=Option.bind_eq_some_iff.1 h
 have c0:∀ W,Calls Try.prog 46 #[.agg #[.string a0_0,.string a0_1],.int .i64 0] W fun e w'=>e = .returned (.int .u8 x0) ∧ Below W.heap.size W w':=fun W=>(impl_Sequence_at.calls _ _ _ x0 W h0).mono fun e w' ⟨he,hd⟩=>⟨he,by first|exact hd|exact hd.below⟩
 have c1:∀ W,Calls Try.prog 46 #[.agg #[.string a0_2,.string a0_3],.int .i64 0] W fun e w'=>e = .returned (.int .u8 x1) ∧ Below W.heap.size W w':=fun W=>(impl_Sequence_at.calls _ _ _ x1 W h1).mono fun e w' ⟨he,hd⟩=>⟨he,by first|exact hd|exact hd.below⟩
 have c2:∀ W,Calls Try.prog 46 #[.agg #[.string a0_4,.string a0_5],.int .i64 0] W fun e w'=>e = .returned (.int .u8 x2) ∧ Below W.heap.size W w':=fun W=>(impl_Sequence_at.calls _ _ _ x2 W h2).mono fun e w' ⟨he,hd⟩=>⟨he,by first|exact hd|exact hd.below⟩
 have C0:=aM c0;have C1:=aM c1;have C2:=aM c2;have HE:=aM (Option.some.inj h)
 clear c0 c1 c2 h h0 h1 h2
 have q0:∀ W,(Instr.index 51 (.agg #[.string a0_0,.string a0_1,.string a0_2,.string a0_3,.string a0_4,.string a0_5]) (.int .i64 0)).run Try.prog W = .ok (.agg #[.string a0_0,.string a0_1]) W:=fun W=>by kernel_rfl
 have q1:∀ W,(Instr.index 51 (.agg #[.string a0_0,.string a0_1,.string a0_2,.string a0_3,.string a0_4,.string a0_5]) (.int .i64 1)).run Try.prog W = .ok (.agg #[.string a0_2,.string a0_3]) W:=fun W=>by kernel_rfl
 have q2:∀ W,(Instr.index 51 (.agg #[.string a0_0,.string a0_1,.string a0_2,.string a0_3,.string a0_4,.string a0_5]) (.int .i64 2)).run Try.prog W = .ok (.agg #[.string a0_4,.string a0_5]) W:=fun W=>by kernel_rfl
 have hu27:=Try.underlying25
 have hu37:=Try.underlying51
 go_enter Try.func53,Try.ntmps53
 go_wp2
 go_loopg [10,4,5,6] 3 (fun gg v10 v4 v5 v6 wr=>∃ (i z o s:Int),(i = 0 ∨ i = 1 ∨ i = 2 ∨ i = 3) ∧ 3 - i.toNat ≤ gg ∧ v10 = .int .i64 i ∧ v4 = .int .i64 z ∧ v5 = .int .i64 o ∧ v6 = .int .i64 s ∧ (0 ≤ z ∧ z ≤ i ∧ 0 ≤ o ∧ o ≤ i) ∧ Aside0 (voteAt x0 x1 x2 i = (z,o,s)) ∧ Aside0 (Below w.heap.size w wr))
 case atStart=>exact ⟨0,0,0,-1,.inl rfl,by decide,rfl,rfl,rfl,rfl,by decide,⟨rfl⟩,⟨(Below.refl _ _).alloc (Nat.le_refl _) _⟩⟩
 case round =>
  obtain ⟨i,z,o,s,hi,hg,rfl,rfl,rfl,rfl,hz,HV,HB⟩:=hrel
  have wz:wrap64 (z + 1) = z + 1:=by unfold wrap64;omega
  have wo:wrap64 (o + 1) = o + 1:=by unfold wrap64;omega
  rcases hi with rfl|rfl|rfl|rfl
  ·have q:=q0 wr
   go_wp2_with (go_at_call 46;refine (C0.out _).mono ?_;rintro e w' ⟨rfl,hb'⟩)
   all_goals
    go_roundg 2
    case measure=>omega
    case rel=>exact ⟨1,_,_,_,.inr (.inl rfl),by decide,rfl,rfl,rfl,rfl,by omega,⟨by have e:=HV.out;show voteStep 0 x0 (voteAt x0 x1 x2 0) = _;rw [e];unfold voteStep;simp_all⟩,⟨(HB.out.alloc HB.out.size _).trans (hb'.mono (by have:=HB.out.size;simp;omega))⟩⟩
  ·have q:=q1 wr
   go_wp2_with (go_at_call 46;refine (C1.out _).mono ?_;rintro e w' ⟨rfl,hb'⟩)
   all_goals
    go_roundg 1
    case measure=>omega
    case rel=>exact ⟨2,_,_,_,.inr (.inr (.inl rfl)),by decide,rfl,rfl,rfl,rfl,by omega,⟨by have e:=HV.out;show voteStep 1 x1 (voteAt x0 x1 x2 1) = _;rw [e];unfold voteStep;simp_all⟩,⟨(HB.out.alloc HB.out.size _).trans (hb'.mono (by have:=HB.out.size;simp;omega))⟩⟩
  ·have q:=q2 wr
   go_wp2_with (go_at_call 46;refine (C2.out _).mono ?_;rintro e w' ⟨rfl,hb'⟩)
   all_goals
    go_roundg 0
    case measure=>omega
    case rel=>exact ⟨3,_,_,_,.inr (.inr (.inr rfl)),by decide,rfl,rfl,rfl,rfl,by omega,⟨by have e:=HV.out;show voteStep 2 x2 (voteAt x0 x1 x2 2) = _;rw [e];unfold voteStep;simp_all⟩,⟨(HB.out.alloc HB.out.size _).trans (hb'.mono (by have:=HB.out.size;simp;omega))⟩⟩
  ·have HR:=aM (HE.out.symm.trans (congrArg voteEnd HV.out))
   go_wp2
   all_goals
    go_ret2
    have e:=HR.out
    have hb:=HB.out
    simp only [voteEnd] at e
    (repeat' split at e) <;> first|(exfalso;omega)|(obtain ⟨rfl,rfl⟩:=Prod.mk.inj e;exact ⟨rfl,hb⟩)
end
section
def mvOne (v0 v1:ByteArray) (letter:Int) (s0 s1:ByteArray):Option (ByteArray × ByteArray) :=
 (impl_Sequence_at.f s0 s1 0).bind fun x=>if x ≠ letter ∧ x ≠ 42 then some (v0,v1) else impl_Sequence_shift.f s0 s1
def impl_Sequence_moved.f (a0_0 a0_1 a1_0 a1_1 a1_2 a1_3 a1_4 a1_5:ByteArray) (a2:Int):Option (ByteArray × ByteArray × ByteArray × ByteArray × ByteArray × ByteArray) :=
 (mvOne a0_0 a0_1 a2 a1_0 a1_1).bind fun y0=>(mvOne a0_0 a0_1 a2 a1_2 a1_3).bind fun y1=>(mvOne a0_0 a0_1 a2 a1_4 a1_5).bind fun y2=>some (y0.1,y0.2,y1.1,y1.2,y2.1,y2.2)
def mvCells (a0 a1 a2 a3 a4 a5 y0 y1 y2 y3 y4 y5:ByteArray) (i:Int):Array Value :=
 if i = 0 then #[.string a0,.string a1,.string a2,.string a3,.string a4,.string a5] else if i = 1 then #[.string y0,.string y1,.string a2,.string a3,.string a4,.string a5] else if i = 2 then #[.string y0,.string y1,.string y2,.string y3,.string a4,.string a5] else #[.string y0,.string y1,.string y2,.string y3,.string y4,.string y5]
set_option maxHeartbeats 4000000 in
set_option maxRecDepth 100000 in
theorem impl_Sequence_moved.calls (a0_0 a0_1 a1_0 a1_1 a1_2 a1_3 a1_4 a1_5:ByteArray) (a2:Int) (r1 r2 r3 r4 r5 r6:ByteArray) (w:World) (h:impl_Sequence_moved.f a0_0 a0_1 a1_0 a1_1 a1_2 a1_3 a1_4 a1_5 a2 = some (r1,r2,r3,r4,r5,r6)) :
  Calls Try.prog 54 #[.agg #[.string a0_0,.string a0_1],.agg #[.string a1_0,.string a1_1,.string a1_2,.string a1_3,.string a1_4,.string a1_5],.int .u8 a2] w fun e w'=>e = .returned (.agg #[.string r1,.string r2,.string r3,.string r4,.string r5,.string r6]) ∧ Below w.heap.size w w':=by
 unfold impl_Sequence_moved.f at h
 obtain ⟨⟨y0,y1⟩,h0,h⟩:=Option.bind_eq_some_iff.1 h
 obtain ⟨⟨y2,y3⟩,h1,h⟩:=Option.bind_eq_some_iff.1 h
 obtain ⟨⟨y4,y5⟩,h2,h⟩:=Option.bind_eq_some_iff.1 h
 simp only [Option.some.injEq,Prod.mk.injEq] at h
 obtain ⟨rfl,rfl,rfl,rfl,rfl,rfl⟩:=h
 unfold mvOne at h0 h1 h2
 obtain ⟨x0,g0,h0⟩:=Option.bind_eq_some_iff.1 h0
 obtain ⟨x1,g1,h1⟩:=Option.bind_eq_some_iff.1 h1
 obtain ⟨x2,g2,h2⟩:=Option.bind_eq_some_iff.1 h2
 have c0:∀ W,Calls Try.prog 46 #[.agg #[.string a1_0,.string a1_1],.int .i64 0] W fun e w'=>e = .returned (.int .u8 x0) ∧ Below W.heap.size W w':=fun W=>(impl_Sequence_at.calls _ _ _ x0 W g0).mono fun e w' ⟨he,hd⟩=>⟨he,by first|exact hd|exact hd.below⟩
 have c1:∀ W,Calls Try.prog 46 #[.agg #[.string a1_2,.string a1_3],.int .i64 0] W fun e w'=>e = .returned (.int .u8 x1) ∧ Below W.heap.size W w':=fun W=>(impl_Sequence_at.calls _ _ _ x1 W g1).mono fun e w' ⟨he,hd⟩=>⟨he,by first|exact hd|exact hd.below⟩
 have c2:∀ W,Calls Try.prog 46 #[.agg #[.string a1_4,.string a1_5],.int .i64 0] W fun e w'=>e = .returned (.int .u8 x2) ∧ Below W.heap.size W w':=fun W=>(impl_Sequence_at.calls _ _ _ x2 W g2).mono fun e w' ⟨he,hd⟩=>⟨he,by first|exact hd|exact hd.below⟩
 have C0:=aM c0;have C1:=aM c1;have C2:=aM c2;have H0:=aM h0;have H1:=aM h1;have H2:=aM h2
 clear c0 c1 c2 h0 h1 h2 g0 g1 g2
 have q0:∀ W,(Instr.index 51 (.agg #[.string a1_0,.string a1_1,.string a1_2,.string a1_3,.string a1_4,.string a1_5]) (.int .i64 0)).run Try.prog W = .ok (.agg #[.string a1_0,.string a1_1]) W:=fun W=>by kernel_rfl
 have q1:∀ W,(Instr.index 51 (.agg #[.string a1_0,.string a1_1,.string a1_2,.string a1_3,.string a1_4,.string a1_5]) (.int .i64 1)).run Try.prog W = .ok (.agg #[.string a1_2,.string a1_3]) W:=fun W=>by kernel_rfl
 have q2:∀ W,(Instr.index 51 (.agg #[.string a1_0,.string a1_1,.string a1_2,.string a1_3,.string a1_4,.string a1_5]) (.int .i64 2)).run Try.prog W = .ok (.agg #[.string a1_4,.string a1_5]) W:=fun W=>by kernel_rfl
 have hu27:=Try.underlying25
 have hu37:=Try.underlying51
 go_enter Try.func54,Try.ntmps54
 go_wp2
 go_loopg [11] 3 (fun gg v11 wr=>∃ (i:Int),(i = 0 ∨ i = 1 ∨ i = 2 ∨ i = 3) ∧ 3 - i.toNat ≤ gg ∧ v11 = .int .i64 i ∧ Aside0 (wr.heap[w.heap.size]? = some (.cells #[.string a0_0,.string a0_1] 25 (0,0))) ∧ Aside0 (wr.heap[w.heap.size + 1]? = some (.cells (mvCells a1_0 a1_1 a1_2 a1_3 a1_4 a1_5 y0 y1 y2 y3 y4 y5 i) 51 (0,0))) ∧ Aside0 (wr.heap[w.heap.size + 1 + 1]? = some (.cells #[.string ⟨#[]⟩,.string ⟨#[]⟩,.string ⟨#[]⟩,.string ⟨#[]⟩,.string ⟨#[]⟩,.string ⟨#[]⟩] 51 (0,0))) ∧ Aside0 (Below w.heap.size w wr) ∧ Aside0 (w.heap.size + 3 ≤ wr.heap.size))
 case atStart =>
  have s1:(w.alloc (.cells #[.string a0_0,.string a0_1] 25)).heap.size = w.heap.size + 1:=by simp
  have s2:((w.alloc (.cells #[.string a0_0,.string a0_1] 25)).alloc (.cells #[.string a1_0,.string a1_1,.string a1_2,.string a1_3,.string a1_4,.string a1_5] 51)).heap.size = w.heap.size + 1 + 1:=by simp
  exact ⟨0,.inl rfl,by decide,rfl,⟨yA (yA (blk_new _ _) _) _⟩,⟨s1 ▸ yA (blk_new _ _) _⟩,⟨s2 ▸ blk_new _ _⟩,⟨zA (zA (zA (Below.refl _ _) _) _) _⟩,⟨by simp⟩⟩
 case round =>
  obtain ⟨i,hi,hg,rfl,HV,HP,HR,HB,HZ⟩:=hrel
  rcases hi with rfl|rfl|rfl|rfl
  ·have q:=q0 wr
   have HP':wr.heap[w.heap.size + 1]? = some (.cells #[.string a1_0,.string a1_1,.string a1_2,.string a1_3,.string a1_4,.string a1_5] 51 (0,0)):=HP.out
   clear HP
   have HP:=aM HP'
   clear HP'
   have e0:=H0.out
   by_cases d1:x0 = a2
   ·rw [if_neg (by simp [d1])] at e0
    have CS:=aM (fun W=>(impl_Sequence_shift.calls _ _ y0 y1 W e0).mono fun e w' (hh:e = .returned (.agg #[.string y0,.string y1]) ∧ Below W.heap.size W w')=>hh)
    have b1:(x0 != a2) = false:=bne_eq_false_iff_eq.mpr d1
    clear e0 d1
    go_wp2_with (first|(go_at_call 46;refine (C0.out _).mono ?_;rintro e wA ⟨rfl,hb'⟩;have GV:=aM (blk_below (yA HV.out _) hb');have GP:=aM (blk_below (yA HP.out _) hb');have GR:=aM (blk_below (yA HR.out _) hb');have GS:=aM (blk_below (blk_new wr (.cells #[.string a1_0,.string a1_1] 25)) hb');have HBA:=aM ((HB.out.alloc HB.out.size _).trans (hb'.mono (by have:=HB.out.size;simp;omega)));have HZA:=aM (Nat.le_trans HZ.out (Nat.le_trans (by simp) hb'.size));clear hb' HV HP HR HB HZ;have HV:=GV;have HP:=GP;have HR:=GR;have HB:=HBA;have HZ:=HZA;clear GV GP GR HBA HZA;have GS0:=(blk_cell GS.out 0).trans rfl;have GS1:=(blk_cell GS.out 1).trans rfl)|(go_at_call 45;refine (CS.out _).mono ?_;rintro e wB ⟨rfl,hb'⟩;have GV:=aM (blk_below HV.out hb');have GP:=aM (blk_below HP.out hb');have GR:=aM (blk_below HR.out hb');have HBA:=aM (HB.out.trans (hb'.mono HB.out.size));have HZA:=aM (Nat.le_trans HZ.out hb'.size);clear hb' HV HP HR HB HZ GS;have HV:=GV;have HP:=GP;have HR:=GR;have HB:=HBA;have HZ:=HZA;clear GV GP GR HBA HZA;have FP0:=blk_frozen HP.out 0;have FP1:=blk_frozen HP.out 1;have GC0:=(blk_cell HP.out 0).trans rfl;have GC1:=(blk_cell HP.out 1).trans rfl))
    all_goals
     go_roundg 2
     case measure=>omega
     case rel=>exact ⟨1,.inr (.inl rfl),by decide,rfl,⟨blk_far (blk_far HV.out (by simp) _) (by simp) _⟩,⟨blk_put (cs:=#[.string y0,.string a1_1,.string a1_2,.string a1_3,.string a1_4,.string a1_5]) (blk_put (cs:=#[.string a1_0,.string a1_1,.string a1_2,.string a1_3,.string a1_4,.string a1_5]) HP.out 0 _ rfl) 1 _ rfl⟩,⟨blk_far (blk_far HR.out (by simp) _) (by simp) _⟩,⟨zS (zS HB.out (by omega)) (by omega)⟩,⟨by have:=HZ.out;simpa [World.setCell] using this⟩⟩
   ·have b1:(x0 != a2) = true:=bne_iff_ne.mpr d1
    by_cases d2:x0 = 42
    ·rw [if_neg (by simp [d2])] at e0
     have CS:=aM (fun W=>(impl_Sequence_shift.calls _ _ y0 y1 W e0).mono fun e w' (hh:e = .returned (.agg #[.string y0,.string y1]) ∧ Below W.heap.size W w')=>hh)
     have b2:(x0 != 42) = false:=bne_eq_false_iff_eq.mpr d2
     clear e0 d1 d2
     go_wp2_with (first|(go_at_call 46;refine (C0.out _).mono ?_;rintro e wA ⟨rfl,hb'⟩;have GV:=aM (blk_below (yA HV.out _) hb');have GP:=aM (blk_below (yA HP.out _) hb');have GR:=aM (blk_below (yA HR.out _) hb');have GS:=aM (blk_below (blk_new wr (.cells #[.string a1_0,.string a1_1] 25)) hb');have HBA:=aM ((HB.out.alloc HB.out.size _).trans (hb'.mono (by have:=HB.out.size;simp;omega)));have HZA:=aM (Nat.le_trans HZ.out (Nat.le_trans (by simp) hb'.size));clear hb' HV HP HR HB HZ;have HV:=GV;have HP:=GP;have HR:=GR;have HB:=HBA;have HZ:=HZA;clear GV GP GR HBA HZA;have GS0:=(blk_cell GS.out 0).trans rfl;have GS1:=(blk_cell GS.out 1).trans rfl)|(go_at_call 45;refine (CS.out _).mono ?_;rintro e wB ⟨rfl,hb'⟩;have GV:=aM (blk_below HV.out hb');have GP:=aM (blk_below HP.out hb');have GR:=aM (blk_below HR.out hb');have HBA:=aM (HB.out.trans (hb'.mono HB.out.size));have HZA:=aM (Nat.le_trans HZ.out hb'.size);clear hb' HV HP HR HB HZ GS;have HV:=GV;have HP:=GP;have HR:=GR;have HB:=HBA;have HZ:=HZA;clear GV GP GR HBA HZA;have FP0:=blk_frozen HP.out 0;have FP1:=blk_frozen HP.out 1;have GC0:=(blk_cell HP.out 0).trans rfl;have GC1:=(blk_cell HP.out 1).trans rfl))
     all_goals
      go_roundg 2
      case measure=>omega
      case rel=>exact ⟨1,.inr (.inl rfl),by decide,rfl,⟨blk_far (blk_far HV.out (by simp) _) (by simp) _⟩,⟨blk_put (cs:=#[.string y0,.string a1_1,.string a1_2,.string a1_3,.string a1_4,.string a1_5]) (blk_put (cs:=#[.string a1_0,.string a1_1,.string a1_2,.string a1_3,.string a1_4,.string a1_5]) HP.out 0 _ rfl) 1 _ rfl⟩,⟨blk_far (blk_far HR.out (by simp) _) (by simp) _⟩,⟨zS (zS HB.out (by omega)) (by omega)⟩,⟨by have:=HZ.out;simpa [World.setCell] using this⟩⟩
    ·rw [if_pos ⟨d1,d2⟩] at e0
     have b2:(x0 != 42) = true:=bne_iff_ne.mpr d2
     obtain ⟨rfl,rfl⟩:=Prod.mk.inj (Option.some.inj e0)
     clear e0 d1 d2
     go_wp2_with (go_at_call 46;refine (C0.out _).mono ?_;rintro e wA ⟨rfl,hb'⟩;have GV:=aM (blk_below (yA HV.out _) hb');have GP:=aM (blk_below (yA HP.out _) hb');have GR:=aM (blk_below (yA HR.out _) hb');have GS:=aM (blk_below (blk_new wr (.cells #[.string a1_0,.string a1_1] 25)) hb');have HBA:=aM ((HB.out.alloc HB.out.size _).trans (hb'.mono (by have:=HB.out.size;simp;omega)));have HZA:=aM (Nat.le_trans HZ.out (Nat.le_trans (by simp) hb'.size));clear hb' HV HP HR HB HZ;have HV:=GV;have HP:=GP;have HR:=GR;have HB:=HBA;have HZ:=HZA;clear GV GP GR HBA HZA;have GS0:=(blk_cell GS.out 0).trans rfl;have GS1:=(blk_cell GS.out 1).trans rfl;have GA0:=(blk_cell HV.out 0).trans rfl;have GA1:=(blk_cell HV.out 1).trans rfl;have FP0:=blk_frozen HP.out 0;have FP1:=blk_frozen HP.out 1;have GC0:=(blk_cell HP.out 0).trans rfl;have GC1:=(blk_cell HP.out 1).trans rfl)
     all_goals
      go_roundg 2
      case measure=>omega
      case rel=>exact ⟨1,.inr (.inl rfl),by decide,rfl,⟨blk_far (blk_far HV.out (by simp) _) (by simp) _⟩,⟨blk_put (cs:=#[.string a0_0,.string a1_1,.string a1_2,.string a1_3,.string a1_4,.string a1_5]) (blk_put (cs:=#[.string a1_0,.string a1_1,.string a1_2,.string a1_3,.string a1_4,.string a1_5]) HP.out 0 _ rfl) 1 _ rfl⟩,⟨blk_far (blk_far HR.out (by simp) _) (by simp) _⟩,⟨zS (zS HB.out (by omega)) (by omega)⟩,⟨by have:=HZ.out;simpa [World.setCell] using this⟩⟩
  ·have q:=q1 wr
   have HP':wr.heap[w.heap.size + 1]? = some (.cells #[.string y0,.string y1,.string a1_2,.string a1_3,.string a1_4,.string a1_5] 51 (0,0)):=HP.out
   clear HP
   have HP:=aM HP'
   clear HP'
   have e0:=H1.out
   by_cases d1:x1 = a2
   ·rw [if_neg (by simp [d1])] at e0
    have CS:=aM (fun W=>(impl_Sequence_shift.calls _ _ y2 y3 W e0).mono fun e w' (hh:e = .returned (.agg #[.string y2,.string y3]) ∧ Below W.heap.size W w')=>hh)
    have b1:(x1 != a2) = false:=bne_eq_false_iff_eq.mpr d1
    clear e0 d1
    go_wp2_with (first|(go_at_call 46;refine (C1.out _).mono ?_;rintro e wA ⟨rfl,hb'⟩;have GV:=aM (blk_below (yA HV.out _) hb');have GP:=aM (blk_below (yA HP.out _) hb');have GR:=aM (blk_below (yA HR.out _) hb');have GS:=aM (blk_below (blk_new wr (.cells #[.string a1_2,.string a1_3] 25)) hb');have HBA:=aM ((HB.out.alloc HB.out.size _).trans (hb'.mono (by have:=HB.out.size;simp;omega)));have HZA:=aM (Nat.le_trans HZ.out (Nat.le_trans (by simp) hb'.size));clear hb' HV HP HR HB HZ;have HV:=GV;have HP:=GP;have HR:=GR;have HB:=HBA;have HZ:=HZA;clear GV GP GR HBA HZA;have GS0:=(blk_cell GS.out 0).trans rfl;have GS1:=(blk_cell GS.out 1).trans rfl)|(go_at_call 45;refine (CS.out _).mono ?_;rintro e wB ⟨rfl,hb'⟩;have GV:=aM (blk_below HV.out hb');have GP:=aM (blk_below HP.out hb');have GR:=aM (blk_below HR.out hb');have HBA:=aM (HB.out.trans (hb'.mono HB.out.size));have HZA:=aM (Nat.le_trans HZ.out hb'.size);clear hb' HV HP HR HB HZ GS;have HV:=GV;have HP:=GP;have HR:=GR;have HB:=HBA;have HZ:=HZA;clear GV GP GR HBA HZA;have FP0:=blk_frozen HP.out 2;have FP1:=blk_frozen HP.out 3;have GC0:=(blk_cell HP.out 2).trans rfl;have GC1:=(blk_cell HP.out 3).trans rfl))
    all_goals
     go_roundg 1
     case measure=>omega
     case rel=>exact ⟨2,.inr (.inr (.inl rfl)),by decide,rfl,⟨blk_far (blk_far HV.out (by simp) _) (by simp) _⟩,⟨blk_put (cs:=#[.string y0,.string y1,.string y2,.string a1_3,.string a1_4,.string a1_5]) (blk_put (cs:=#[.string y0,.string y1,.string a1_2,.string a1_3,.string a1_4,.string a1_5]) HP.out 2 _ rfl) 3 _ rfl⟩,⟨blk_far (blk_far HR.out (by simp) _) (by simp) _⟩,⟨zS (zS HB.out (by omega)) (by omega)⟩,⟨by have:=HZ.out;simpa [World.setCell] using this⟩⟩
   ·have b1:(x1 != a2) = true:=bne_iff_ne.mpr d1
    by_cases d2:x1 = 42
    ·rw [if_neg (by simp [d2])] at e0
     have CS:=aM (fun W=>(impl_Sequence_shift.calls _ _ y2 y3 W e0).mono fun e w' (hh:e = .returned (.agg #[.string y2,.string y3]) ∧ Below W.heap.size W w')=>hh)
     have b2:(x1 != 42) = false:=bne_eq_false_iff_eq.mpr d2
     clear e0 d1 d2
     go_wp2_with (first|(go_at_call 46;refine (C1.out _).mono ?_;rintro e wA ⟨rfl,hb'⟩;have GV:=aM (blk_below (yA HV.out _) hb');have GP:=aM (blk_below (yA HP.out _) hb');have GR:=aM (blk_below (yA HR.out _) hb');have GS:=aM (blk_below (blk_new wr (.cells #[.string a1_2,.string a1_3] 25)) hb');have HBA:=aM ((HB.out.alloc HB.out.size _).trans (hb'.mono (by have:=HB.out.size;simp;omega)));have HZA:=aM (Nat.le_trans HZ.out (Nat.le_trans (by simp) hb'.size));clear hb' HV HP HR HB HZ;have HV:=GV;have HP:=GP;have HR:=GR;have HB:=HBA;have HZ:=HZA;clear GV GP GR HBA HZA;have GS0:=(blk_cell GS.out 0).trans rfl;have GS1:=(blk_cell GS.out 1).trans rfl)|(go_at_call 45;refine (CS.out _).mono ?_;rintro e wB ⟨rfl,hb'⟩;have GV:=aM (blk_below HV.out hb');have GP:=aM (blk_below HP.out hb');have GR:=aM (blk_below HR.out hb');have HBA:=aM (HB.out.trans (hb'.mono HB.out.size));have HZA:=aM (Nat.le_trans HZ.out hb'.size);clear hb' HV HP HR HB HZ GS;have HV:=GV;have HP:=GP;have HR:=GR;have HB:=HBA;have HZ:=HZA;clear GV GP GR HBA HZA;have FP0:=blk_frozen HP.out 2;have FP1:=blk_frozen HP.out 3;have GC0:=(blk_cell HP.out 2).trans rfl;have GC1:=(blk_cell HP.out 3).trans rfl))
     all_goals
      go_roundg 1
      case measure=>omega
      case rel=>exact ⟨2,.inr (.inr (.inl rfl)),by decide,rfl,⟨blk_far (blk_far HV.out (by simp) _) (by simp) _⟩,⟨blk_put (cs:=#[.string y0,.string y1,.string y2,.string a1_3,.string a1_4,.string a1_5]) (blk_put (cs:=#[.string y0,.string y1,.string a1_2,.string a1_3,.string a1_4,.string a1_5]) HP.out 2 _ rfl) 3 _ rfl⟩,⟨blk_far (blk_far HR.out (by simp) _) (by simp) _⟩,⟨zS (zS HB.out (by omega)) (by omega)⟩,⟨by have:=HZ.out;simpa [World.setCell] using this⟩⟩
    ·rw [if_pos ⟨d1,d2⟩] at e0
     have b2:(x1 != 42) = true:=bne_iff_ne.mpr d2
     obtain ⟨rfl,rfl⟩:=Prod.mk.inj (Option.some.inj e0)
     clear e0 d1 d2
     go_wp2_with (go_at_call 46;refine (C1.out _).mono ?_;rintro e wA ⟨rfl,hb'⟩;have GV:=aM (blk_below (yA HV.out _) hb');have GP:=aM (blk_below (yA HP.out _) hb');have GR:=aM (blk_below (yA HR.out _) hb');have GS:=aM (blk_below (blk_new wr (.cells #[.string a1_2,.string a1_3] 25)) hb');have HBA:=aM ((HB.out.alloc HB.out.size _).trans (hb'.mono (by have:=HB.out.size;simp;omega)));have HZA:=aM (Nat.le_trans HZ.out (Nat.le_trans (by simp) hb'.size));clear hb' HV HP HR HB HZ;have HV:=GV;have HP:=GP;have HR:=GR;have HB:=HBA;have HZ:=HZA;clear GV GP GR HBA HZA;have GS0:=(blk_cell GS.out 0).trans rfl;have GS1:=(blk_cell GS.out 1).trans rfl;have GA0:=(blk_cell HV.out 0).trans rfl;have GA1:=(blk_cell HV.out 1).trans rfl;have FP0:=blk_frozen HP.out 2;have FP1:=blk_frozen HP.out 3;have GC0:=(blk_cell HP.out 2).trans rfl;have GC1:=(blk_cell HP.out 3).trans rfl)
     all_goals
      go_roundg 1
      case measure=>omega
      case rel=>exact ⟨2,.inr (.inr (.inl rfl)),by decide,rfl,⟨blk_far (blk_far HV.out (by simp) _) (by simp) _⟩,⟨blk_put (cs:=#[.string y0,.string y1,.string a0_0,.string a1_3,.string a1_4,.string a1_5]) (blk_put (cs:=#[.string y0,.string y1,.string a1_2,.string a1_3,.string a1_4,.string a1_5]) HP.out 2 _ rfl) 3 _ rfl⟩,⟨blk_far (blk_far HR.out (by simp) _) (by simp) _⟩,⟨zS (zS HB.out (by omega)) (by omega)⟩,⟨by have:=HZ.out;simpa [World.setCell] using this⟩⟩
  ·have q:=q2 wr
   have HP':wr.heap[w.heap.size + 1]? = some (.cells #[.string y0,.string y1,.string y2,.string y3,.string a1_4,.string a1_5] 51 (0,0)):=HP.out
   clear HP
   have HP:=aM HP'
   clear HP'
   have e0:=H2.out
   by_cases d1:x2 = a2
   ·rw [if_neg (by simp [d1])] at e0
    have CS:=aM (fun W=>(impl_Sequence_shift.calls _ _ y4 y5 W e0).mono fun e w' (hh:e = .returned (.agg #[.string y4,.string y5]) ∧ Below W.heap.size W w')=>hh)
    have b1:(x2 != a2) = false:=bne_eq_false_iff_eq.mpr d1
    clear e0 d1
    go_wp2_with (first|(go_at_call 46;refine (C2.out _).mono ?_;rintro e wA ⟨rfl,hb'⟩;have GV:=aM (blk_below (yA HV.out _) hb');have GP:=aM (blk_below (yA HP.out _) hb');have GR:=aM (blk_below (yA HR.out _) hb');have GS:=aM (blk_below (blk_new wr (.cells #[.string a1_4,.string a1_5] 25)) hb');have HBA:=aM ((HB.out.alloc HB.out.size _).trans (hb'.mono (by have:=HB.out.size;simp;omega)));have HZA:=aM (Nat.le_trans HZ.out (Nat.le_trans (by simp) hb'.size));clear hb' HV HP HR HB HZ;have HV:=GV;have HP:=GP;have HR:=GR;have HB:=HBA;have HZ:=HZA;clear GV GP GR HBA HZA;have GS0:=(blk_cell GS.out 0).trans rfl;have GS1:=(blk_cell GS.out 1).trans rfl)|(go_at_call 45;refine (CS.out _).mono ?_;rintro e wB ⟨rfl,hb'⟩;have GV:=aM (blk_below HV.out hb');have GP:=aM (blk_below HP.out hb');have GR:=aM (blk_below HR.out hb');have HBA:=aM (HB.out.trans (hb'.mono HB.out.size));have HZA:=aM (Nat.le_trans HZ.out hb'.size);clear hb' HV HP HR HB HZ GS;have HV:=GV;have HP:=GP;have HR:=GR;have HB:=HBA;have HZ:=HZA;clear GV GP GR HBA HZA;have FP0:=blk_frozen HP.out 4;have FP1:=blk_frozen HP.out 5;have GC0:=(blk_cell HP.out 4).trans rfl;have GC1:=(blk_cell HP.out 5).trans rfl))
    all_goals
     go_roundg 0
     case measure=>omega
     case rel=>exact ⟨3,.inr (.inr (.inr rfl)),by decide,rfl,⟨blk_far (blk_far HV.out (by simp) _) (by simp) _⟩,⟨blk_put (cs:=#[.string y0,.string y1,.string y2,.string y3,.string y4,.string a1_5]) (blk_put (cs:=#[.string y0,.string y1,.string y2,.string y3,.string a1_4,.string a1_5]) HP.out 4 _ rfl) 5 _ rfl⟩,⟨blk_far (blk_far HR.out (by simp) _) (by simp) _⟩,⟨zS (zS HB.out (by omega)) (by omega)⟩,⟨by have:=HZ.out;simpa [World.setCell] using this⟩⟩
   ·have b1:(x2 != a2) = true:=bne_iff_ne.mpr d1
    by_cases d2:x2 = 42
    ·rw [if_neg (by simp [d2])] at e0
     have CS:=aM (fun W=>(impl_Sequence_shift.calls _ _ y4 y5 W e0).mono fun e w' (hh:e = .returned (.agg #[.string y4,.string y5]) ∧ Below W.heap.size W w')=>hh)
     have b2:(x2 != 42) = false:=bne_eq_false_iff_eq.mpr d2
     clear e0 d1 d2
     go_wp2_with (first|(go_at_call 46;refine (C2.out _).mono ?_;rintro e wA ⟨rfl,hb'⟩;have GV:=aM (blk_below (yA HV.out _) hb');have GP:=aM (blk_below (yA HP.out _) hb');have GR:=aM (blk_below (yA HR.out _) hb');have GS:=aM (blk_below (blk_new wr (.cells #[.string a1_4,.string a1_5] 25)) hb');have HBA:=aM ((HB.out.alloc HB.out.size _).trans (hb'.mono (by have:=HB.out.size;simp;omega)));have HZA:=aM (Nat.le_trans HZ.out (Nat.le_trans (by simp) hb'.size));clear hb' HV HP HR HB HZ;have HV:=GV;have HP:=GP;have HR:=GR;have HB:=HBA;have HZ:=HZA;clear GV GP GR HBA HZA;have GS0:=(blk_cell GS.out 0).trans rfl;have GS1:=(blk_cell GS.out 1).trans rfl)|(go_at_call 45;refine (CS.out _).mono ?_;rintro e wB ⟨rfl,hb'⟩;have GV:=aM (blk_below HV.out hb');have GP:=aM (blk_below HP.out hb');have GR:=aM (blk_below HR.out hb');have HBA:=aM (HB.out.trans (hb'.mono HB.out.size));have HZA:=aM (Nat.le_trans HZ.out hb'.size);clear hb' HV HP HR HB HZ GS;have HV:=GV;have HP:=GP;have HR:=GR;have HB:=HBA;have HZ:=HZA;clear GV GP GR HBA HZA;have FP0:=blk_frozen HP.out 4;have FP1:=blk_frozen HP.out 5;have GC0:=(blk_cell HP.out 4).trans rfl;have GC1:=(blk_cell HP.out 5).trans rfl))
     all_goals
      go_roundg 0
      case measure=>omega
      case rel=>exact ⟨3,.inr (.inr (.inr rfl)),by decide,rfl,⟨blk_far (blk_far HV.out (by simp) _) (by simp) _⟩,⟨blk_put (cs:=#[.string y0,.string y1,.string y2,.string y3,.string y4,.string a1_5]) (blk_put (cs:=#[.string y0,.string y1,.string y2,.string y3,.string a1_4,.string a1_5]) HP.out 4 _ rfl) 5 _ rfl⟩,⟨blk_far (blk_far HR.out (by simp) _) (by simp) _⟩,⟨zS (zS HB.out (by omega)) (by omega)⟩,⟨by have:=HZ.out;simpa [World.setCell] using this⟩⟩
    ·rw [if_pos ⟨d1,d2⟩] at e0
     have b2:(x2 != 42) = true:=bne_iff_ne.mpr d2
     obtain ⟨rfl,rfl⟩:=Prod.mk.inj (Option.some.inj e0)
     clear e0 d1 d2
     go_wp2_with (go_at_call 46;refine (C2.out _).mono ?_;rintro e wA ⟨rfl,hb'⟩;have GV:=aM (blk_below (yA HV.out _) hb');have GP:=aM (blk_below (yA HP.out _) hb');have GR:=aM (blk_below (yA HR.out _) hb');have GS:=aM (blk_below (blk_new wr (.cells #[.string a1_4,.string a1_5] 25)) hb');have HBA:=aM ((HB.out.alloc HB.out.size _).trans (hb'.mono (by have:=HB.out.size;simp;omega)));have HZA:=aM (Nat.le_trans HZ.out (Nat.le_trans (by simp) hb'.size));clear hb' HV HP HR HB HZ;have HV:=GV;have HP:=GP;have HR:=GR;have HB:=HBA;have HZ:=HZA;clear GV GP GR HBA HZA;have GS0:=(blk_cell GS.out 0).trans rfl;have GS1:=(blk_cell GS.out 1).trans rfl;have GA0:=(blk_cell HV.out 0).trans rfl;have GA1:=(blk_cell HV.out 1).trans rfl;have FP0:=blk_frozen HP.out 4;have FP1:=blk_frozen HP.out 5;have GC0:=(blk_cell HP.out 4).trans rfl;have GC1:=(blk_cell HP.out 5).trans rfl)
     all_goals
      go_roundg 0
      case measure=>omega
      case rel=>exact ⟨3,.inr (.inr (.inr rfl)),by decide,rfl,⟨blk_far (blk_far HV.out (by simp) _) (by simp) _⟩,⟨blk_put (cs:=#[.string y0,.string y1,.string y2,.string y3,.string a0_0,.string a1_5]) (blk_put (cs:=#[.string y0,.string y1,.string y2,.string y3,.string a1_4,.string a1_5]) HP.out 4 _ rfl) 5 _ rfl⟩,⟨blk_far (blk_far HR.out (by simp) _) (by simp) _⟩,⟨zS (zS HB.out (by omega)) (by omega)⟩,⟨by have:=HZ.out;simpa [World.setCell] using this⟩⟩
  ·have HP':wr.heap[w.heap.size + 1]? = some (.cells #[.string y0,.string y1,.string y2,.string y3,.string y4,.string y5] 51 (0,0)):=HP.out
   clear HP
   have G0:=(blk_cell HP' 0).trans rfl
   have G1:=(blk_cell HP' 1).trans rfl
   have G2:=(blk_cell HP' 2).trans rfl
   have G3:=(blk_cell HP' 3).trans rfl
   have G4:=(blk_cell HP' 4).trans rfl
   have G5:=(blk_cell HP' 5).trans rfl
   have K0:=(blk_cell HR.out 0).trans rfl
   have K1:=(blk_cell HR.out 1).trans rfl
   have K2:=(blk_cell HR.out 2).trans rfl
   have K3:=(blk_cell HR.out 3).trans rfl
   have K4:=(blk_cell HR.out 4).trans rfl
   have K5:=(blk_cell HR.out 5).trans rfl
   have F0:=blk_frozen HR.out 0
   have F1:=blk_frozen HR.out 1
   have F2:=blk_frozen HR.out 2
   have F3:=blk_frozen HR.out 3
   have F4:=blk_frozen HR.out 4
   have F5:=blk_frozen HR.out 5
   go_wp2
   refine bodyPost_ret (results_cell_row rfl _ _ (w.heap.size + 1 + 1) 51 #[.string y0,.string y1,.string y2,.string y3,.string y4,.string y5] (0,0) _ rfl (blk_put (cs:=#[.string y0,.string y1,.string y2,.string y3,.string y4,.string ⟨#[]⟩]) (blk_put (cs:=#[.string y0,.string y1,.string y2,.string y3,.string ⟨#[]⟩,.string ⟨#[]⟩]) (blk_put (cs:=#[.string y0,.string y1,.string y2,.string ⟨#[]⟩,.string ⟨#[]⟩,.string ⟨#[]⟩]) (blk_put (cs:=#[.string y0,.string y1,.string ⟨#[]⟩,.string ⟨#[]⟩,.string ⟨#[]⟩,.string ⟨#[]⟩]) (blk_put (cs:=#[.string y0,.string ⟨#[]⟩,.string ⟨#[]⟩,.string ⟨#[]⟩,.string ⟨#[]⟩,.string ⟨#[]⟩]) (blk_put (cs:=#[.string ⟨#[]⟩,.string ⟨#[]⟩,.string ⟨#[]⟩,.string ⟨#[]⟩,.string ⟨#[]⟩,.string ⟨#[]⟩]) (HR.out) 0 _ rfl) 1 _ rfl) 2 _ rfl) 3 _ rfl) 4 _ rfl) 5 _ rfl) Try.underlying51 rfl (by kernel_rfl)) rfl ?_
   exact ⟨rfl,zS (zS (zS (zS (zS (zS (HB.out) (by omega)) (by omega)) (by omega)) (by omega)) (by omega)) (by omega)⟩
end
end Go.Proofs.Ytmhpbilkocnlnaa.Q
end
section
namespace Go.Proofs.Ytmhpbilkocnlnaa.Q
open Go.Proofs.YtmhpbilkocnlnaaW.Ext
open Go.RowKit Go.Proofs.YtmhpbilkocnlnaaW.PrintWords Go.Proofs.YtmhpbilkocnlnaaW.PrintLast Go.Proofs.YtmhpbilkocnlnaaW.PrintMore
attribute [local go_sem] max2_int min2_int max_two min_two max_three min_three max_four min_four   -- for this text's walks alone
set_option linter.unusedVariables false
set_option linter.unusedSimpArgs false
attribute [local go_sem high] eqA25
def impl_three_twice.j0:Nat → Bool → ByteArray → ByteArray → ByteArray → ByteArray → ByteArray → ByteArray → Option (ByteArray × ByteArray × Bool)
 | 0,_,_,_,_,_,_,_=>none
 | k + 1,x4,x527000,x527001,x527002,x527003,x527004,x527005=>if x4 = true then (some (x527000,x527001,true)) else (if (x527002.toList == x527004.toList && (x527003.toList == x527005.toList)) = true then (some (x527002,x527003,true)) else (some ((⟨#[]⟩:ByteArray),(⟨#[]⟩:ByteArray),false)))
def impl_three_twice.f (k:Nat) (a0_0:ByteArray) (a0_1:ByteArray) (a0_2:ByteArray) (a0_3:ByteArray) (a0_4:ByteArray) (a0_5:ByteArray):Option (ByteArray × ByteArray × Bool):=if (a0_0.toList == a0_2.toList && (a0_1.toList == a0_3.toList)) = true then (impl_three_twice.j0 k true a0_0 a0_1 a0_2 a0_3 a0_4 a0_5) else (impl_three_twice.j0 k (a0_0.toList == a0_4.toList && (a0_1.toList == a0_5.toList)) a0_0 a0_1 a0_2 a0_3 a0_4 a0_5)
theorem impl_three_twice.mono_l:∀ k,(∀ y0 y1 y2 y3 y4 y5 y6,LeO (impl_three_twice.j0 k y0 y1 y2 y3 y4 y5 y6) (impl_three_twice.j0 (k + 1) y0 y1 y2 y3 y4 y5 y6))
 | 0=>fun _ _ _ _ _ _ _ r h=>by simp [impl_three_twice.j0] at h
 | k + 1=>by
  have ih0:=impl_three_twice.mono_l k
  ·intro y0 y1 y2 y3 y4 y5 y6
   unfold impl_three_twice.j0
   repeat' first
   | (with_reducible exact ih0 _ _ _ _ _ _ _)
   | (with_reducible exact LeO.refl _)
   | (with_reducible exact LeO.none _)
   | (with_reducible refine LeO.ite ?_ ?_)
   | (with_reducible refine LeO.bind ?_ (fun _=>?_))
   | exact ih0 _ _ _ _ _ _ _
   | exact LeO.none _
   | refine LeO.ite ?_ ?_
   | refine LeO.bind ?_ (fun _=>?_)
theorem impl_three_twice.mono:∀ a0 a1 a2 a3 a4 a5 k,LeO (impl_three_twice.f k a0 a1 a2 a3 a4 a5) (impl_three_twice.f (k + 1) a0 a1 a2 a3 a4 a5):=by
 intro a0 a1 a2 a3 a4 a5 k
 have ih0:=impl_three_twice.mono_l k
 unfold impl_three_twice.f
 repeat' first
   | (with_reducible exact ih0 _ _ _ _ _ _ _)
   | (with_reducible exact LeO.refl _)
   | (with_reducible exact LeO.none _)
   | (with_reducible refine LeO.ite ?_ ?_)
   | (with_reducible refine LeO.bind ?_ (fun _=>?_))
   | exact ih0 _ _ _ _ _ _ _
   | exact LeO.none _
   | refine LeO.ite ?_ ?_
   | refine LeO.bind ?_ (fun _=>?_)
set_option maxHeartbeats 8000000 in
set_option maxRecDepth 100000 in
theorem impl_three_twice.calls (k:Nat) (a0_0:ByteArray) (a0_1:ByteArray) (a0_2:ByteArray) (a0_3:ByteArray) (a0_4:ByteArray) (a0_5:ByteArray) (r1:ByteArray) (r2:ByteArray) (r3:Bool) (w:World) (h:impl_three_twice.f k a0_0 a0_1 a0_2 a0_3 a0_4 a0_5 = some (r1,r2,r3)) :
  Calls Try.prog 51 #[.agg #[.string a0_0,.string a0_1,.string a0_2,.string a0_3,.string a0_4,.string a0_5]] w fun e w'=>e = .returned (.tuple #[.agg #[.string r1,.string r2],.bool r3]) ∧ Below w.heap.size w w':=by
 have hu51:=Try.underlying51
 have hu25:=Try.underlying25
 have HB:=aM (Below.refl w.heap.size w)
 have H:(if (a0_0.toList == a0_2.toList && (a0_1.toList == a0_3.toList)) = true then (impl_three_twice.j0 k true a0_0 a0_1 a0_2 a0_3 a0_4 a0_5) else (impl_three_twice.j0 k (a0_0.toList == a0_4.toList && (a0_1.toList == a0_5.toList)) a0_0 a0_1 a0_2 a0_3 a0_4 a0_5)) = some (r1,r2,r3):=h
 clear h
 have HC2:=aM H
 clear H
 go_enter Try.func51,Try.ntmps51
 go_upto_region 1 with (first|((with_reducible refine gate_dst (N:=1) rfl ?_);refine box_event rfl (N:=1) rfl (cs:=#[.string a0_0,.string a0_1,.string a0_2,.string a0_3,.string a0_4,.string a0_5]) (t:=51) (by first|(go_simp;done)|(go_simp;rfl)) ?_;intro gb526 hg w3 hbox hb;have BK526:=aM (hbox);have GW526:=wl hg HB;have GE526:=wl hg HB;replace HB:=bs HB hb;clear hb hbox hg)|((with_reducible refine gate_dst (N:=2) rfl ?_);refine box_event rfl (N:=2) rfl (cs:=#[.string ⟨#[]⟩,.string ⟨#[]⟩]) (t:=25) (by first|(go_simp;done)|(go_simp;rfl)) ?_;intro gb527 hg w4 hbox hb;have BK527:=aM (hbox);have GW527:=wl hg HB;have GE527:=wl hg HB;have NB526_527:=nl hg BK526;have NB527_526:=nr hg BK526;replace BK526:=kb BK526 hb;replace HB:=bs HB hb;clear hb hbox hg))
 (try simp only [Act.put,sI,sZ,sS])
 go_cut [4] (fun v4 wc=>∃ (kq:Nat) (x4_1:Bool),v4 = .bool x4_1 ∧ Aside0 (impl_three_twice.j0 kq x4_1 a0_0 a0_1 a0_2 a0_3 a0_4 a0_5 = some (r1,r2,r3)) ∧ Aside0 (kq ≤ k) ∧ Aside0 (wc.heap[gb526]? = some (.cells #[.string a0_0,.string a0_1,.string a0_2,.string a0_3,.string a0_4,.string a0_5] 51 (0,0))) ∧ Aside0 (wc.heap[gb527]? = some (.cells #[.string ⟨#[]⟩,.string ⟨#[]⟩] 25 (0,0))) ∧ Aside0 (Below w.heap.size w wc))
 case first =>
  have H:=HC2.out
  clear HC2
  by_cases c5:(a0_0.toList == a0_2.toList && (a0_1.toList == a0_3.toList)) = true
  ·rw [if_pos c5] at H
   have c5b0:(a0_0.toList == a0_2.toList && (a0_1.toList == a0_3.toList)) = true:=c5
   (try (have c5b1:decide (a0_0.toList = a0_2.toList && (a0_1.toList == a0_3.toList)) = true:=by simpa using c5))
   (try (have c5b2:(a0_0.toList == a0_2.toList && (a0_1.toList == a0_3.toList)) = true:=by simpa using c5))
   clear c5
   (first|rw [c5b0]|(simp only [i64_w,i32_w];rw [c5b0])|skip)
   have H':=aM H
   clear H
   have hnb6:=NB526_527.out
   have hnc6:=NB527_526.out
   have⟨a0,a1,a2,a3,a4,a5,b0,b1,b2,b3,b4,b5⟩:=q6f BK526
   go_wp2
   go_meet
   case rel=>exact ⟨_,(true),(by first|rfl|(simp;done)|(simp [*];done)),H',⟨by first|omega|exact Nat.le_refl _⟩,⟨bk BK526⟩,⟨bk BK527⟩,⟨bb HB⟩⟩
  ·rw [if_neg c5] at H
   have c5b0:(a0_0.toList == a0_2.toList && (a0_1.toList == a0_3.toList)) = false:=by simpa using c5
   (try (have c5b1:decide (a0_0.toList = a0_2.toList && (a0_1.toList == a0_3.toList)) = false:=by simpa using c5))
   (try (have c5b2:(a0_0.toList == a0_2.toList && (a0_1.toList == a0_3.toList)) = false:=by simpa using c5))
   (try (have c5b3:¬ (a0_0.toList = a0_2.toList && (a0_1.toList == a0_3.toList)):=by simpa using c5))
   clear c5
   (first|rw [c5b0]|(simp only [i64_w,i32_w];rw [c5b0])|skip)
   have H':=aM H
   clear H
   have hnb8:=NB526_527.out
   have hnc8:=NB527_526.out
   have⟨a0,a1,a2,a3,a4,a5,b0,b1,b2,b3,b4,b5⟩:=q6f BK526
   go_wp2
   go_meet
   case rel=>exact ⟨_,((a0_0.toList == a0_4.toList && (a0_1.toList == a0_5.toList))),(by first|rfl|(simp;done)|(simp [*];done)),H',⟨by first|omega|exact Nat.le_refl _⟩,⟨bk BK526⟩,⟨bk BK527⟩,⟨bb HB⟩⟩
 case rest =>
  clear HC2
  try clear p2
  try clear c5
  try clear c5b0
  try clear c5b1
  try clear c5b2
  try clear c6
  try clear c8
  try clear hcz7_0
  try clear hcz7_1
  try clear hcz7_2
  try clear hcz7_3
  try clear hcz7_4
  try clear hcz7_5
  try clear hcz9_0
  try clear hcz9_1
  try clear hcz9_2
  try clear hcz9_3
  try clear hcz9_4
  try clear hcz9_5
  try clear hfz7_0
  try clear hfz7_1
  try clear hfz7_2
  try clear hfz7_3
  try clear hfz7_4
  try clear hfz7_5
  try clear hfz9_0
  try clear hfz9_1
  try clear hfz9_2
  try clear hfz9_3
  try clear hfz9_4
  try clear hfz9_5
  obtain ⟨kq,x4_1,rfl,HA,HJ1,BK526,BK527,HB⟩:=hcut
  cases kq with
  | zero=>exact absurd HA.out (by simp [impl_three_twice.j0])
  | succ kj1 =>
   have H:=HA.out
   clear HA
   simp only [impl_three_twice.j0] at H
   by_cases c10:x4_1 = true
   ·subst c10
    have H1:(some (a0_0,a0_1,true)) = some (r1,r2,r3):=by rw [if_pos rfl] at H;exact H
    clear H
    have H:=H1
    clear H1
    simp only [Option.some.injEq,Prod.mk.injEq] at H
    obtain ⟨rfl,rfl,rfl⟩:=H
    have hnb11:=NB526_527.out
    have hnc11:=NB527_526.out
    have⟨a0,a1,a2,a3,a4,a5,b0,b1,b2,b3,b4,b5⟩:=q6f BK526;have⟨a0,a1,b0,b1⟩:=q2f BK527
    go_wp2
    refine bodyPost_ret (results_ct rfl _ _ gb527 25 #[.string a0_0,.string a0_1] (0,0) _ rfl (by (with_reducible repeat (first|apply yN|apply yD|apply yA));refine blk_put (cs:=#[.string a0_0,.string ⟨#[]⟩]) ?_ 1 _ rfl;(with_reducible repeat (first|apply yN|apply yD|apply yA));refine blk_put (cs:=#[.string ⟨#[]⟩,.string ⟨#[]⟩]) ?_ 0 _ rfl;(with_reducible repeat (first|apply yN|apply yD|apply yA));exact BK527.out) Try.underlying25 rfl (by kernel_rfl)) rfl ?_
    exact ⟨rfl,by first|exact bb HB|exact bg HB GE526|exact bg HB GE527⟩
   ·replace c10:=Bool.eq_false_iff.mpr c10
    subst c10
    have H1:(if (a0_2.toList == a0_4.toList && (a0_3.toList == a0_5.toList)) = true then (some (a0_2,a0_3,true)) else (some ((⟨#[]⟩:ByteArray),(⟨#[]⟩:ByteArray),false))) = some (r1,r2,r3):=by rw [if_neg (show ¬ (false = true) by decide)] at H;exact H
    clear H
    have H:=H1
    clear H1
    by_cases c14:(a0_2.toList == a0_4.toList && (a0_3.toList == a0_5.toList)) = true
    ·rw [if_pos c14] at H
     have c14b0:(a0_2.toList == a0_4.toList && (a0_3.toList == a0_5.toList)) = true:=c14
     (try (have c14b1:decide (a0_2.toList = a0_4.toList && (a0_3.toList == a0_5.toList)) = true:=by simpa using c14))
     (try (have c14b2:(a0_2.toList == a0_4.toList && (a0_3.toList == a0_5.toList)) = true:=by simpa using c14))
     clear c14
     simp only [Option.some.injEq,Prod.mk.injEq] at H
     obtain ⟨rfl,rfl,rfl⟩:=H
     have hnb15:=NB526_527.out
     have hnc15:=NB527_526.out
     have⟨a0,a1,a2,a3,a4,a5,b0,b1,b2,b3,b4,b5⟩:=q6f BK526;have⟨a0,a1,b0,b1⟩:=q2f BK527
     go_wp2
     refine bodyPost_ret (results_ct rfl _ _ gb527 25 #[.string a0_2,.string a0_3] (0,0) _ rfl (by (with_reducible repeat (first|apply yN|apply yD|apply yA));refine blk_put (cs:=#[.string a0_2,.string ⟨#[]⟩]) ?_ 1 _ rfl;(with_reducible repeat (first|apply yN|apply yD|apply yA));refine blk_put (cs:=#[.string ⟨#[]⟩,.string ⟨#[]⟩]) ?_ 0 _ rfl;(with_reducible repeat (first|apply yN|apply yD|apply yA));exact BK527.out) Try.underlying25 rfl (by kernel_rfl)) rfl ?_
     exact ⟨rfl,by first|exact bb HB|exact bg HB GE526|exact bg HB GE527⟩
    ·rw [if_neg c14] at H
     have c14b0:(a0_2.toList == a0_4.toList && (a0_3.toList == a0_5.toList)) = false:=by simpa using c14
     (try (have c14b1:decide (a0_2.toList = a0_4.toList && (a0_3.toList == a0_5.toList)) = false:=by simpa using c14))
     (try (have c14b2:(a0_2.toList == a0_4.toList && (a0_3.toList == a0_5.toList)) = false:=by simpa using c14))
     (try (have c14b3:¬ (a0_2.toList = a0_4.toList && (a0_3.toList == a0_5.toList)):=by simpa using c14))
     clear c14
     simp only [Option.some.injEq,Prod.mk.injEq] at H
     obtain ⟨rfl,rfl,rfl⟩:=H
     have hnb18:=NB526_527.out
     have hnc18:=NB527_526.out
     have⟨a0,a1,a2,a3,a4,a5,b0,b1,b2,b3,b4,b5⟩:=q6f BK526;have⟨a0,a1,b0,b1⟩:=q2f BK527
     go_wp2
     refine bodyPost_ret (results_ct rfl _ _ gb527 25 #[.string ⟨#[]⟩,.string ⟨#[]⟩] (0,0) _ rfl (by (with_reducible repeat (first|apply yN|apply yD|apply yA));refine blk_put (cs:=#[.string ⟨#[]⟩,.string ⟨#[]⟩]) ?_ 1 _ rfl;(with_reducible repeat (first|apply yN|apply yD|apply yA));refine blk_put (cs:=#[.string ⟨#[]⟩,.string ⟨#[]⟩]) ?_ 0 _ rfl;(with_reducible repeat (first|apply yN|apply yD|apply yA));exact BK527.out) Try.underlying25 rfl (by kernel_rfl)) rfl ?_
     exact ⟨rfl,by first|exact bb HB|exact bg HB GE526|exact bg HB GE527⟩
end Go.Proofs.Ytmhpbilkocnlnaa.Q
end
section
namespace Go.Proofs.Ytmhpbilkocnlnaa.Q
open Go.Proofs.YtmhpbilkocnlnaaW.Ext
open Go.RowKit Go.Proofs.YtmhpbilkocnlnaaW.PrintWords Go.Proofs.YtmhpbilkocnlnaaW.PrintLast Go.Proofs.YtmhpbilkocnlnaaW.PrintMore
attribute [local go_sem] max2_int min2_int max_two min_two max_three min_three max_four min_four   -- for this text's walks alone
set_option linter.unusedVariables false
set_option linter.unusedSimpArgs false
def impl_short.f (a0_0:ByteArray) (a0_1:ByteArray):Option (ByteArray × ByteArray × Int):=if (wrap64 ((a0_0.size:Int) + (a0_1.size:Int))) > 64 then (some ((⟨#[]⟩:ByteArray),(⟨#[]⟩:ByteArray),3)) else (some (a0_0,a0_1,0))
set_option maxHeartbeats 8000000 in
set_option maxRecDepth 100000 in
theorem impl_short.calls (a0_0:ByteArray) (a0_1:ByteArray) (r1:ByteArray) (r2:ByteArray) (r3:Int) (w:World) (h:impl_short.f a0_0 a0_1 = some (r1,r2,r3)) :
  Calls Try.prog 52 #[.agg #[.string a0_0,.string a0_1]] w fun e w'=>e = .returned (.tuple #[.agg #[.string r1,.string r2],.int .i64 r3]) ∧ Below w.heap.size w w':=by
 have hu25:=Try.underlying25
 have HB:=aM (Below.refl w.heap.size w)
 have H:(if (wrap64 ((a0_0.size:Int) + (a0_1.size:Int))) > 64 then (some ((⟨#[]⟩:ByteArray),(⟨#[]⟩:ByteArray),3)) else (some (a0_0,a0_1,0))) = some (r1,r2,r3):=h
 clear h
 by_cases c2:(wrap64 ((a0_0.size:Int) + (a0_1.size:Int))) > 64
 ·rw [if_pos c2] at H
  have c2b0:decide (64 < (wrap64 ((a0_0.size:Int) + (a0_1.size:Int)))) = true:=decide_eq_true c2
  clear c2
  simp only [Option.some.injEq,Prod.mk.injEq] at H
  obtain ⟨rfl,rfl,rfl⟩:=H
  go_enter Try.func52,Try.ntmps52
  go_wp2_with (first|((with_reducible refine gate_dst (N:=1) rfl ?_);refine box_event rfl (N:=1) rfl (cs:=#[.string a0_0,.string a0_1]) (t:=25) (by first|(go_simp;done)|(go_simp;rfl)) ?_;intro gb528 hg w3 hbox hb;have BK528:=aM (hbox);have GW528:=wl hg HB;have GE528:=wl hg HB;replace HB:=bs HB hb;clear hb hbox hg)|((with_reducible refine gate_dst (N:=2) rfl ?_);refine box_event rfl (N:=2) rfl (cs:=#[.string ⟨#[]⟩,.string ⟨#[]⟩]) (t:=25) (by first|(go_simp;done)|(go_simp;rfl)) ?_;intro gb529 hg w4 hbox hb;have BK529:=aM (hbox);have GW529:=wl hg HB;have GE529:=wl hg HB;have NB528_529:=nl hg BK528;have NB529_528:=nr hg BK528;replace BK528:=kb BK528 hb;replace HB:=bs HB hb;clear hb hbox hg;have hnb5:=NB528_529.out;have hnc5:=NB529_528.out;have⟨a0,a1,b0,b1⟩:=q2f BK528;have⟨a0,a1,b0,b1⟩:=q2f BK529))
  refine bodyPost_ret (results_ct rfl _ _ gb529 25 #[.string ⟨#[]⟩,.string ⟨#[]⟩] (0,0) _ rfl (by (with_reducible repeat (first|apply yN|apply yD|apply yA));refine blk_put (cs:=#[.string ⟨#[]⟩,.string ⟨#[]⟩]) ?_ 1 _ rfl;(with_reducible repeat (first|apply yN|apply yD|apply yA));refine blk_put (cs:=#[.string ⟨#[]⟩,.string ⟨#[]⟩]) ?_ 0 _ rfl;(with_reducible repeat (first|apply yN|apply yD|apply yA));exact BK529.out) Try.underlying25 rfl (by kernel_rfl)) rfl ?_
  exact ⟨rfl,by first|exact bb HB|exact bg HB GE528|exact bg HB GE529⟩
 ·rw [if_neg c2] at H
  have c2b0:decide (64 < (wrap64 ((a0_0.size:Int) + (a0_1.size:Int)))) = false:=decide_eq_false c2
  clear c2
  simp only [Option.some.injEq,Prod.mk.injEq] at H
  obtain ⟨rfl,rfl,rfl⟩:=H
  go_enter Try.func52,Try.ntmps52
  go_wp2_with (first|((with_reducible refine gate_dst (N:=1) rfl ?_);refine box_event rfl (N:=1) rfl (cs:=#[.string a0_0,.string a0_1]) (t:=25) (by first|(go_simp;done)|(go_simp;rfl)) ?_;intro gb528 hg w8 hbox hb;have BK528:=aM (hbox);have GW528:=wl hg HB;have GE528:=wl hg HB;replace HB:=bs HB hb;clear hb hbox hg)|((with_reducible refine gate_dst (N:=2) rfl ?_);refine box_event rfl (N:=2) rfl (cs:=#[.string ⟨#[]⟩,.string ⟨#[]⟩]) (t:=25) (by first|(go_simp;done)|(go_simp;rfl)) ?_;intro gb529 hg w9 hbox hb;have BK529:=aM (hbox);have GW529:=wl hg HB;have GE529:=wl hg HB;have NB528_529:=nl hg BK528;have NB529_528:=nr hg BK528;replace BK528:=kb BK528 hb;replace HB:=bs HB hb;clear hb hbox hg;have hnb10:=NB528_529.out;have hnc10:=NB529_528.out;have⟨a0,a1,b0,b1⟩:=q2f BK528;have⟨a0,a1,b0,b1⟩:=q2f BK529))
  refine bodyPost_ret (results_ct rfl _ _ gb529 25 #[.string a0_0,.string a0_1] (0,0) _ rfl (by (with_reducible repeat (first|apply yN|apply yD|apply yA));refine blk_put (cs:=#[.string a0_0,.string ⟨#[]⟩]) ?_ 1 _ rfl;(with_reducible repeat (first|apply yN|apply yD|apply yA));refine blk_put (cs:=#[.string ⟨#[]⟩,.string ⟨#[]⟩]) ?_ 0 _ rfl;(with_reducible repeat (first|apply yN|apply yD|apply yA));exact BK529.out) Try.underlying25 rfl (by kernel_rfl)) rfl ?_
  exact ⟨rfl,by first|exact bb HB|exact bg HB GE528|exact bg HB GE529⟩
section
open Go.Maps Go.WideMaps
theorem laid3:laidOutB Try.prog = true:=by kernel_rfl
theorem row37:(51:TypeId) < Try.prog.types.size:=by
 show (51:Nat) < _
 exact of_decide_eq_true (by kernel_rfl)
theorem wide37:(match Try.prog.underlying 51 with|some (.array _ _)|some (.struct _)=>true|_=>false) = true:=by kernel_rfl
set_option maxRecDepth 100000 in
theorem law37:Keyed Try.prog 51:=Keyed.of_law (deep_law_laid laid3 (m:=4) (by omega) row37 (by kernel_rfl) wide37)
theorem kt37:Try.prog.keyType 51 = true:=by kernel_rfl
theorem cells37_:Try.prog.cellsOf 51 = 6:=by kernel_rfl
theorem cells27_:Try.prog.cellsOf 25 = 2:=by kernel_rfl
theorem cells9_:Try.prog.cellsOf 9 = 1:=by kernel_rfl
theorem sz3:∃ m,Try.prog.types.size = m + 3:=⟨Try.prog.types.size - 3,by
 have:(3:Nat) ≤ Try.prog.types.size:=of_decide_eq_true (by kernel_rfl)
 omega⟩
theorem key37 (a0 a1 a2 a3 a4 a5:ByteArray) (h0:a0.size ≤ maxLen) (h1:a1.size ≤ maxLen) (h2:a2.size ≤ maxLen) (h3:a3.size ≤ maxLen) (h4:a4.size ≤ maxLen) (h5:a5.size ≤ maxLen) :
  ∃ kl,keyOf Try.prog 51 (.agg #[.string a0,.string a1,.string a2,.string a3,.string a4,.string a5]) = some kl:=by
 obtain ⟨m,hm⟩:=sz3
 have hu:=Try.underlying51
 have hv:=Try.underlying25
 have h9:=Try.underlying9
 unfold keyOf
 simp only [hu]
 rw [if_pos (by simp [kt37,Value.formed,hu,cells37_]),hm]
 unfold Program.keyLits
 simp only [hu,Value.cells]
 rw [if_pos (by rw [cells37_];rfl),show List.range 3 = [0,1,2] from rfl,List.mapM_cons,List.mapM_cons,List.mapM_cons,List.mapM_nil]
 simp [cells27_,cells9_,Program.keyLits,hv,h9,h0,h1,h2,h3,h4,h5]
structure P6 where
 p0:ByteArray
 p1:ByteArray
 p2:ByteArray
 p3:ByteArray
 p4:ByteArray
 p5:ByteArray
deriving DecidableEq
def P6.cells (p:P6):Array Value:=#[.string p.p0,.string p.p1,.string p.p2,.string p.p3,.string p.p4,.string p.p5]
def P6.ok (p:P6):Prop:=p.p0.size ≤ 1000 ∧ p.p1.size ≤ 1000 ∧ p.p2.size ≤ 1000 ∧ p.p3.size ≤ 1000 ∧ p.p4.size ≤ 1000 ∧ p.p5.size ≤ 1000
instance (p:P6):Decidable p.ok:=by unfold P6.ok;infer_instance
theorem P6.key (p:P6) (h:p.ok):∃ kl,keyOf Try.prog 51 (.agg p.cells) = some kl:=by
 obtain ⟨h0,h1,h2,h3,h4,h5⟩:=h
 have hm:(1000:Nat) ≤ maxLen:=by unfold maxLen;omega
 exact key37 _ _ _ _ _ _ (Nat.le_trans h0 hm) (Nat.le_trans h1 hm) (Nat.le_trans h2 hm) (Nat.le_trans h3 hm) (Nat.le_trans h4 hm) (Nat.le_trans h5 hm)
theorem P6.cells_inj {p q:P6} (h:(Value.agg p.cells) = .agg q.cells):p = q:=by
 cases p;cases q
 simp only [P6.cells,Value.agg.injEq] at h
 have h':=congrArg Array.toList h
 simp at h'
 simp [h']
def idx6:List P6 → P6 → Option Nat
 | [],_=>none
 | x :: r,p=>if x = p then some 0 else (idx6 r p).map (· + 1)
theorem idx6_snoc_same:∀ (l:List P6) (p:P6),idx6 l p = none → idx6 (l ++ [p]) p = some l.length
 | [],p,_=>by simp [idx6]
 | x :: r,p,h=>by
  unfold idx6 at h
  split at h
  ·cases h
  ·rename_i hne
   have:=idx6_snoc_same r p (by simpa using h)
   simp [idx6,hne,this]
theorem idx6_snoc_other:∀ (l:List P6) (p q:P6),p ≠ q → idx6 (l ++ [p]) q = idx6 l q
 | [],p,q,h=>by simp [idx6,h]
 | x :: r,p,q,h=>by
  have:=idx6_snoc_other r p q h
  simp only [List.cons_append,idx6,this]
theorem idx6_lt:∀ (l:List P6) (p:P6) (i:Nat),idx6 l p = some i → i < l.length
 | [],_,_,h=>by cases h
 | x :: r,p,i,h=>by
  unfold idx6 at h
  split at h
  ·obtain rfl:=Option.some.inj h;simp
  ·obtain ⟨j,hj,rfl⟩:=Option.map_eq_some_iff.1 h
   have:=idx6_lt r p j hj
   simp;omega
def Tie (seen:List P6) (D:DataW Unit):Prop :=
 ∀ p kl,keyOf Try.prog 51 (.agg p.cells) = some kl →
  (idx6 seen p = none → has D kl = false) ∧ (∀ i,idx6 seen p = some i → has D kl = true ∧ D.atKey kl (.lit (.int .i64 0)) = .lit (.int .i64 i))
theorem Tie.nil:Tie [] (.map []):=fun p kl _=>⟨fun _=>rfl,fun i h=>by cases h⟩
theorem Tie.snoc {seen:List P6} {D:DataW Unit} (h:Tie seen D) (hD:IsMap D) {p:P6} {kl:Lit} (hk:keyOf Try.prog 51 (.agg p.cells) = some kl) (hn:idx6 seen p = none) :
  Tie (seen ++ [p]) (D.put kl (.lit (.int .i64 seen.length))):=by
 intro q kq hq
 by_cases e:p = q
 ·subst e
  obtain rfl:kl = kq:=Option.some.inj (hk.symm.trans hq)
  rw [idx6_snoc_same seen p hn]
  refine ⟨fun h=>(by cases h),fun i hi=>?_⟩
  obtain rfl:=Option.some.inj hi
  exact ⟨has_put_same hD (law37.key hk) _,atKey_put_same hD (law37.key hk) _ _⟩
 ·rw [idx6_snoc_other seen p q e]
  have hne:kq ≠ kl:=fun h=>e (P6.cells_inj (law37.inj hk (h ▸ hq)))
  rw [has_put_other hne,atKey_put_other hne]
  exact h q kq hq
theorem obj_far {w:World} {g:Nat} {o:Obj} (h:w.heap[g]? = some o) {p:Addr} (hp:g ≠ p.block) (u:Value):(w.setCell p u).heap[g]? = some o:=(Below.heap_setCell w p u g hp).trans h
def midEnd (k:Nat) (a b:ByteArray):Option (ByteArray × ByteArray × Int):=(impl_sequence.f k a b).bind fun q=>impl_short.f q.1 q.2
theorem midEnd.mono (a b:ByteArray) (k:Nat):LeO (midEnd k a b) (midEnd (k + 1) a b):=LeO.bind (impl_sequence.mono a b k) (fun _=>LeO.refl _)
def impl_Sequence_middle.l (v0 v1:ByteArray):Nat → P6 → ByteArray → List P6 → Option (ByteArray × ByteArray × Int)
 | 0,_,_,_=>none
 | k + 1,p,wd,seen =>
  if p.ok ∧ wd.size ≤ 600 ∧ seen.length = wd.size then
   (impl_three_twice.f k p.p0 p.p1 p.p2 p.p3 p.p4 p.p5).bind fun s =>
    if s.2.2 = true then (if s.1.size ≤ 1000 then midEnd k (wd ++ s.1) s.2.1 else none)
    else match idx6 seen p with
     | some i=>midEnd k (wd.extract 0 i) (wd.extract i wd.size)
     | none=>(impl_three_vote.f p.p0 p.p1 p.p2 p.p3 p.p4 p.p5).bind fun lt =>
      if 0 ≤ lt.2 then (if lt.2 = 0 then midEnd k (wd ++ p.p0) p.p1 else if lt.2 = 1 then midEnd k (wd ++ p.p2) p.p3 else if lt.2 = 2 then midEnd k (wd ++ p.p4) p.p5 else none)
      else if wd.size = 600 then some (⟨#[]⟩,⟨#[]⟩,3)
      else if lt.1 = 48 ∨ lt.1 = 49 then (impl_Sequence_moved.f v0 v1 p.p0 p.p1 p.p2 p.p3 p.p4 p.p5 lt.1).bind fun y=>impl_Sequence_middle.l v0 v1 k ⟨y.1,y.2.1,y.2.2.1,y.2.2.2.1,y.2.2.2.2.1,y.2.2.2.2.2⟩ (wd ++ Utf8.encode lt.1) (seen ++ [p])
      else none
  else none
def impl_Sequence_middle.f (k:Nat) (a0_0 a0_1 a1_0 a1_1 a1_2 a1_3 a1_4 a1_5:ByteArray):Option (ByteArray × ByteArray × Int):=impl_Sequence_middle.l a0_0 a0_1 k ⟨a1_0,a1_1,a1_2,a1_3,a1_4,a1_5⟩ ⟨#[]⟩ []
theorem impl_Sequence_middle.mono_l (v0 v1:ByteArray):∀ k p wd seen,LeO (impl_Sequence_middle.l v0 v1 k p wd seen) (impl_Sequence_middle.l v0 v1 (k + 1) p wd seen)
 | 0,_,_,_=>LeO.none _
 | k + 1,p,wd,seen=>by
  have ih:=impl_Sequence_middle.mono_l v0 v1 k
  unfold impl_Sequence_middle.l
  refine LeO.ite ?_ (LeO.refl _)
  refine LeO.bind (impl_three_twice.mono _ _ _ _ _ _ k) (fun s=>?_)
  refine LeO.ite (LeO.ite (midEnd.mono _ _ k) (LeO.refl _)) ?_
  cases idx6 seen p with
  | some i=>exact midEnd.mono _ _ k
  | none =>
   refine LeO.bind (LeO.refl _) (fun lt=>?_)
   refine LeO.ite (LeO.ite (midEnd.mono _ _ k) (LeO.ite (midEnd.mono _ _ k) (LeO.ite (midEnd.mono _ _ k) (LeO.refl _)))) ?_
   refine LeO.ite (LeO.refl _) (LeO.ite ?_ (LeO.refl _))
   exact LeO.bind (LeO.refl _) (fun y=>ih _ _ _)
theorem impl_Sequence_middle.mono:∀ a0 a1 b0 b1 b2 b3 b4 b5 k,LeO (impl_Sequence_middle.f k a0 a1 b0 b1 b2 b3 b4 b5) (impl_Sequence_middle.f (k + 1) a0 a1 b0 b1 b2 b3 b4 b5):=fun a0 a1 b0 b1 b2 b3 b4 b5 k=>impl_Sequence_middle.mono_l a0 a1 k _ _ _
theorem short_parts {k:Nat} {a b r1 r2:ByteArray} {r3:Int} (h:midEnd k a b = some (r1,r2,r3)):∃ s1 s2,impl_sequence.f k a b = some (s1,s2) ∧ impl_short.f s1 s2 = some (r1,r2,r3):=by
 obtain ⟨⟨s1,s2⟩,h1,h2⟩:=Option.bind_eq_some_iff.1 h
 exact ⟨s1,s2,h1,h2⟩
theorem ownsMap_at {w:World} {P:Program} {k:TypeId} {R:Value → Option (DataW Unit × List MemPlace)} {b n:Nat} {D:DataW Unit} (h:w.ownsMap P k R b n D):∃ o,w.heap[b]? = some o ∧ ∀ (W:World) (b':Nat),W.heap[b']? = some o → W.ownsMap P k R b' n D:=by
 obtain ⟨es,clock,h,r⟩:=h
 exact ⟨_,h,fun W b' hW=>⟨es,clock,hW,r⟩⟩
theorem zero3 (w:World):(zeroValue 3).run Try.prog w = .ok (.int .i64 0) w:=by kernel_rfl
theorem Lit.int_inj2 {a b:Int} (h:(DataW.lit (.int .i64 a):DataW Unit) = .lit (.int .i64 b)):a = b:=by injection h with h;injection h
theorem own_empty {P:Program} {k:TypeId} {R:Value → Option (DataW Unit × List MemPlace)} (W:World) (b:Nat) (hW:W.heap[b]? = some (.map #[] 0)):W.ownsMap P k R b 0 (.map []):=by
 obtain ⟨o,h1,h2⟩:=ownsMap_at (World.ownsMap_made W P k R)
 obtain rfl:=Option.some.inj ((blk_new W (.map #[] 0)).symm.trans h1)
 exact h2 W b hW
set_option maxHeartbeats 8000000 in
set_option maxRecDepth 100000 in
theorem impl_Sequence_middle.calls (k:Nat) (a0_0 a0_1 a1_0 a1_1 a1_2 a1_3 a1_4 a1_5:ByteArray) (r1 r2:ByteArray) (r3:Int) (w:World) (h:impl_Sequence_middle.f k a0_0 a0_1 a1_0 a1_1 a1_2 a1_3 a1_4 a1_5 = some (r1,r2,r3)) :
  Calls Try.prog 32 #[.agg #[.string a0_0,.string a0_1],.agg #[.string a1_0,.string a1_1,.string a1_2,.string a1_3,.string a1_4,.string a1_5]] w fun e w'=>e = .returned (.tuple #[.agg #[.string r1,.string r2],.int .i64 r3]) ∧ Below w.heap.size w w':=by
 have H0:impl_Sequence_middle.l a0_0 a0_1 k ⟨a1_0,a1_1,a1_2,a1_3,a1_4,a1_5⟩ ⟨#[]⟩ [] = some (r1,r2,r3):=h
 have H':=aM H0
 clear h H0
 have hu27:=Try.underlying25
 have hu37:=Try.underlying51
 have hmm:=@run_makeMap Try.prog
 go_enter Try.func32,Try.ntmps32
 go_wp2
 go_loopg [7] k (fun gg v7 wr=>∃ (p:P6) (wd:ByteArray) (seen:List P6) (D:DataW Unit) (o:Obj),v7 = .string wd ∧ Aside0 (impl_Sequence_middle.l a0_0 a0_1 gg p wd seen = some (r1,r2,r3)) ∧ Aside0 (wr.heap[w.heap.size]? = some (.cells #[.string a0_0,.string a0_1] 25 (0,0))) ∧ Aside0 (wr.heap[w.heap.size + 1]? = some (.cells #[.string p.p0,.string p.p1,.string p.p2,.string p.p3,.string p.p4,.string p.p5] 51 (0,0))) ∧ Aside0 (wr.heap[w.heap.size + 1 + 1]? = some (.cells #[.string ⟨#[]⟩,.string ⟨#[]⟩] 25 (0,0))) ∧ Aside0 (wr.heap[w.heap.size + 1 + 1 + 1]? = some o) ∧ Aside0 (∀ W:World,W.heap[w.heap.size + 1 + 1 + 1]? = some o → W.ownsMap Try.prog 51 (plainElem Try.prog 3) (w.heap.size + 1 + 1 + 1) seen.length D) ∧ Aside0 (IsMap D ∧ Tie seen D) ∧ Aside0 (Below w.heap.size w wr) ∧ Aside0 (w.heap.size + 4 ≤ wr.heap.size))
 case atStart =>
  have s1:(w.alloc (.cells #[.string a0_0,.string a0_1] 25)).heap.size = w.heap.size + 1:=by simp
  have s2:((w.alloc (.cells #[.string a0_0,.string a0_1] 25)).alloc (.cells #[.string a1_0,.string a1_1,.string a1_2,.string a1_3,.string a1_4,.string a1_5] 51)).heap.size = w.heap.size + 1 + 1:=by simp
  have s3:(((w.alloc (.cells #[.string a0_0,.string a0_1] 25)).alloc (.cells #[.string a1_0,.string a1_1,.string a1_2,.string a1_3,.string a1_4,.string a1_5] 51)).alloc (.cells #[.string ⟨#[]⟩,.string ⟨#[]⟩] 25)).heap.size = w.heap.size + 1 + 1 + 1:=by simp
  exact ⟨⟨a1_0,a1_1,a1_2,a1_3,a1_4,a1_5⟩,_,[],.map [],.map #[] 0,rfl,H',⟨yA (yA (yA (blk_new _ _) _) _) _⟩,⟨s1 ▸ yA (yA (blk_new _ _) _) _⟩,⟨s2 ▸ yA (blk_new _ _) _⟩,⟨s3 ▸ blk_new _ _⟩,⟨fun W hW=>own_empty W _ hW⟩,⟨isMap_empty,Tie.nil⟩,⟨zA (zA (zA (zA (Below.refl _ _) _) _) _) _⟩,⟨by simp⟩⟩
 case round =>
  obtain ⟨p,wd,seen,D,o,rfl,HA,HV,HP,HR,HO,HM,HT,HB,HZ⟩:=hrel
  clear H'
  cases gk with
  | zero=>exact absurd HA.out (by simp [impl_Sequence_middle.l])
  | succ gk =>
   have H:=HA.out
   clear HA
   unfold impl_Sequence_middle.l at H
   by_cases hgd:p.ok ∧ wd.size ≤ 600 ∧ seen.length = wd.size
   case neg=>rw [if_neg hgd] at H;cases H
   rw [if_pos hgd] at H
   obtain ⟨pok,hw6,hsl⟩:=hgd
   obtain ⟨⟨s1,s2,s3⟩,h1,H⟩:=Option.bind_eq_some_iff.1 H
   have CT:Aside0 (∀ W,Calls Try.prog 51 #[.agg #[.string p.p0,.string p.p1,.string p.p2,.string p.p3,.string p.p4,.string p.p5]] W fun e w'=>e = .returned (.tuple #[.agg #[.string s1,.string s2],.bool s3]) ∧ Below W.heap.size W w'):=⟨fun W=>(impl_three_twice.calls gk _ _ _ _ _ _ s1 s2 s3 W h1).mono fun e w' hh=>hh⟩
   clear h1
   have G0:=(blk_cell HP.out 0).trans rfl
   have G1:=(blk_cell HP.out 1).trans rfl
   have G2:=(blk_cell HP.out 2).trans rfl
   have G3:=(blk_cell HP.out 3).trans rfl
   have G4:=(blk_cell HP.out 4).trans rfl
   have G5:=(blk_cell HP.out 5).trans rfl
   cases s3 with
   | true =>
    replace H:(if s1.size ≤ 1000 then midEnd gk (wd ++ s1) s2 else none) = some (r1,r2,r3):=H
    by_cases hz:s1.size ≤ 1000
    case neg=>rw [if_neg hz] at H;cases H
    rw [if_pos hz] at H
    obtain ⟨q1,q2,h2,h3⟩:=short_parts H
    have CS:Aside0 (∀ W,Calls Try.prog 43 #[.string (wd ++ s1),.string s2] W fun e w'=>e = .returned (.agg #[.string q1,.string q2]) ∧ Below W.heap.size W w'):=⟨fun W=>(impl_sequence.calls gk _ _ q1 q2 W h2).mono fun e w' hh=>hh⟩
    have CH:Aside0 (∀ W,Calls Try.prog 52 #[.agg #[.string q1,.string q2]] W fun e w'=>e = .returned (.tuple #[.agg #[.string r1,.string r2],.int .i64 r3]) ∧ Below W.heap.size W w'):=⟨fun W=>(impl_short.calls _ _ r1 r2 r3 W h3).mono fun e w' ⟨he,hd⟩=>⟨he,by first|exact hd|exact hd.below⟩⟩
    clear H h2 h3
    have hcat:=eq_true (show wd.size + s1.size ≤ 9223372036854775807 by omega)
    go_wp2_with (first|(go_at_call 51;refine (CT.out _).mono ?_;rintro e wA ⟨rfl,hb⟩;have nHR_:=aM (blk_below (HR.out) hb);have nHB_:=aM (HB.out.trans (hb.mono (HB.out.size)));have nHZ_:=aM (Nat.le_trans HZ.out (hb.size));clear hb HR HB HZ;have HR:=nHR_;have HB:=nHB_;have HZ:=nHZ_;clear nHR_ nHB_ nHZ_)|(go_at_call 43;refine (CS.out _).mono ?_;rintro e wB ⟨rfl,hb⟩;have nHR_:=aM (blk_below (yA HR.out _) hb);have nHB_:=aM ((HB.out.alloc HB.out.size _).trans (hb.mono (by have:=HB.out.size;simp;omega)));have nHZ_:=aM (Nat.le_trans HZ.out (Nat.le_trans (by simp) hb.size));clear hb HR HB HZ;have HR:=nHR_;have HB:=nHB_;have HZ:=nHZ_;clear nHR_ nHB_ nHZ_)|(go_at_call 52;refine (CH.out _).mono ?_;rintro e wC ⟨rfl,hb⟩;have nHR_:=aM (blk_below (HR.out) hb);have nHB_:=aM (HB.out.trans (hb.mono (HB.out.size)));have nHZ_:=aM (Nat.le_trans HZ.out (hb.size));clear hb HR HB HZ;have HR:=nHR_;have HB:=nHB_;have HZ:=nHZ_;clear nHR_ nHB_ nHZ_;have K0:=(blk_cell HR.out 0).trans rfl;have K1:=(blk_cell HR.out 1).trans rfl;have F0:=blk_frozen HR.out 0;have F1:=blk_frozen HR.out 1))
    refine bodyPost_ret (results_ct rfl _ _ (w.heap.size + 1 + 1) 25 #[.string r1,.string r2] (0,0) _ rfl (by first|exact blk_put (cs:=#[.string r1,.string ⟨#[]⟩]) (blk_put (cs:=#[.string ⟨#[]⟩,.string ⟨#[]⟩]) HR.out 0 _ rfl) 1 _ rfl) Try.underlying25 rfl (by kernel_rfl)) rfl ?_
    exact ⟨rfl,zS (zS HB.out (by omega)) (by omega)⟩
   | false =>
    rw [if_neg (by simp)] at H
    obtain ⟨kl,hkl⟩:=P6.key p pok
    have hkl:keyOf Try.prog 51 (.agg #[.string p.p0,.string p.p1,.string p.p2,.string p.p3,.string p.p4,.string p.p5]) = some kl:=hkl
    have u51:=Try.underlying77
    have u3:=Try.underlying3
    cases hi:idx6 seen p with
    | some i =>
     rw [hi] at H
     replace H:midEnd gk (wd.extract 0 i) (wd.extract i wd.size) = some (r1,r2,r3):=H
     obtain ⟨hhas,hat0⟩:=(HT.out.2 p kl hkl).2 i hi
     have hil:i < wd.size:=by have:=idx6_lt _ _ _ hi;omega
     obtain ⟨q1,q2,h2,h3⟩:=short_parts H
     have CS:Aside0 (∀ W,Calls Try.prog 43 #[.string (wd.extract 0 i),.string (wd.extract i wd.size)] W fun e w'=>e = .returned (.agg #[.string q1,.string q2]) ∧ Below W.heap.size W w'):=⟨fun W=>(impl_sequence.calls gk _ _ q1 q2 W h2).mono fun e w' hh=>hh⟩
     have CH:Aside0 (∀ W,Calls Try.prog 52 #[.agg #[.string q1,.string q2]] W fun e w'=>e = .returned (.tuple #[.agg #[.string r1,.string r2],.int .i64 r3]) ∧ Below W.heap.size W w'):=⟨fun W=>(impl_short.calls _ _ r1 r2 r3 W h3).mono fun e w' ⟨he,hd⟩=>⟨he,by first|exact hd|exact hd.below⟩⟩
     clear H h2 h3
     go_wp2_with (first|(go_at_call 51;refine (CT.out _).mono ?_;rintro e wA ⟨rfl,hb⟩;have nHV_:=aM (blk_below (HV.out) hb);have nHP_:=aM (blk_below (HP.out) hb);have nHR_:=aM (blk_below (HR.out) hb);have nHO_:=aM (blk_below (HO.out) hb);have nHB_:=aM (HB.out.trans (hb.mono (HB.out.size)));have nHZ_:=aM (Nat.le_trans HZ.out (hb.size));clear hb HV HP HR HO HB HZ;have HV:=nHV_;have HP:=nHP_;have HR:=nHR_;have HO:=nHO_;have HB:=nHB_;have HZ:=nHZ_;clear nHV_ nHP_ nHR_ nHO_ nHB_ nHZ_;have G0:=(blk_cell (yA HP.out (.cells #[.string s1,.string s2] 25)) 0).trans rfl;have G1:=(blk_cell (yA HP.out (.cells #[.string s1,.string s2] 25)) 1).trans rfl;have G2:=(blk_cell (yA HP.out (.cells #[.string s1,.string s2] 25)) 2).trans rfl;have G3:=(blk_cell (yA HP.out (.cells #[.string s1,.string s2] 25)) 3).trans rfl;have G4:=(blk_cell (yA HP.out (.cells #[.string s1,.string s2] 25)) 4).trans rfl;have G5:=(blk_cell (yA HP.out (.cells #[.string s1,.string s2] 25)) 5).trans rfl)|(at_lookup;refine wpList_lookup_own_ok_int _ rfl _ _ 77 rfl 51 3 .i64 law37 u51 u3 (zero3 _) (w.heap.size + 1 + 1 + 1) seen.length D rfl (HM.out _ (yA HO.out _)) _ kl rfl hkl ?_;intro c hat hwc;rw [hhas];obtain rfl:c = (i:Int):=Lit.int_inj2 (hat.symm.trans hat0)))
     have hc2:=eq_true (show i ≤ wd.size by omega)
     have nR:=aM (yD (yA HR.out (.cells #[.string s1,.string s2] 25)));have nB:=aM (zD (zA HB.out (.cells #[.string s1,.string s2] 25)))
     clear HR HB HV HP HO HM HT HZ
     have HR:=nR
     have HB:=nB
     clear nR nB
     refine start_ (n:=12) (S:=fun w'=>True) (ds:=[]) #[fF,fF,fF,fF,fF,fF,fF,fF,fF,fF,fF,fF] (by kernel_rfl) rfl rfl trivial (fun hHeld=>?_)
     refine pure_ (i:=0) (N:=some 38) (v:=?_) (a':=?_) #[tT,fF,fF,fF,fF,fF,fF,fF,fF,fF,fF,fF] rfl rfl (by kernel_rfl) (fun _ _ _ h=>h) (Or.inl ⟨by rfl,?_⟩) ?_ ?_
     rotate_left
     ·intro w'
      go_simp
      with_reducible rfl
     rotate_left
     ·simp only [Act.put,sI,sZ,sS,i64_w,i32_w]
      rfl
     refine pure_ (i:=1) (N:=some 39) (v:=?_) (a':=?_) #[tT,tT,fF,fF,fF,fF,fF,fF,fF,fF,fF,fF] rfl rfl (by kernel_rfl) (fun _ _ _ h=>h) (Or.inl ⟨by rfl,?_⟩) ?_ ?_
     rotate_left
     ·intro w'
      go_simp
      with_reducible rfl
     rotate_left
     ·simp only [Act.put,sI,sZ,sS,i64_w,i32_w]
      rfl
     refine pure_ (i:=2) (N:=some 40) (v:=?_) (a':=?_) #[tT,tT,tT,fF,fF,fF,fF,fF,fF,fF,fF,fF] rfl rfl (by kernel_rfl) (fun _ _ _ h=>h) (Or.inl ⟨by rfl,?_⟩) ?_ ?_
     rotate_left
     ·intro w'
      go_simp
      with_reducible rfl
     rotate_left
     ·simp only [Act.put,sI,sZ,sS,i64_w,i32_w]
      rfl
     refine pure_ (i:=3) (N:=some 41) (v:=?_) (a':=?_) #[tT,tT,tT,tT,fF,fF,fF,fF,fF,fF,fF,fF] rfl rfl (by kernel_rfl) (fun _ _ _ h=>h) (Or.inl ⟨by rfl,?_⟩) ?_ ?_
     rotate_left
     ·intro w'
      go_simp
      with_reducible rfl
     rotate_left
     ·simp only [Act.put,sI,sZ,sS,i64_w,i32_w]
      rfl
     refine pure_ (i:=4) (N:=some 42) (v:=?_) (a':=?_) #[tT,tT,tT,tT,tT,fF,fF,fF,fF,fF,fF,fF] rfl rfl (by kernel_rfl) (fun _ _ _ h=>h) (Or.inl ⟨by rfl,?_⟩) ?_ ?_
     rotate_left
     ·intro w'
      go_simp
      with_reducible rfl
     rotate_left
     ·simp only [Act.put,sI,sZ,sS,i64_w,i32_w]
      rfl
     refine pure_ (i:=5) (N:=some 43) (v:=?_) (a':=?_) #[tT,tT,tT,tT,tT,tT,fF,fF,fF,fF,fF,fF] rfl rfl (by kernel_rfl) (fun _ _ _ h=>h) (Or.inl ⟨by rfl,?_⟩) ?_ ?_
     rotate_left
     ·intro w'
      go_simp
      with_reducible rfl
     rotate_left
     ·simp only [Act.put,sI,sZ,sS,i64_w,i32_w]
      rfl
     refine one_ (i:=6) (N:=some 44) #[tT,tT,tT,tT,tT,tT,tT,fF,fF,fF,fF,fF] rfl rfl (by kernel_rfl) (by decide) (fun K hK=>?_)
     refine goes_ Try.func43 (by kernel_rfl) rfl #[.string (wd.extract 0 i),.string (wd.extract i wd.size)] (by rfl) rfl rfl (by simp only [sM,sC,sN];rfl) ?_
     with_reducible refine (CS.out _).mono ?_
     rintro e wB ⟨rfl,hb⟩
     refine ⟨_,rfl,?_⟩
     have nHR_:=aM (blk_below (HR.out) hb);have nHB_:=aM (HB.out.trans (hb.mono (HB.out.size)))
     clear hb HR HB
     have HR:=nHR_
     have HB:=nHB_
     clear nHR_ nHB_
     refine hK.out _ _ trivial (fun hHeld=>?_)
     clear hK K
     refine norm_ (a':=_) (by show Act.put _ _ _=_;simp only [Act.put,sI,sZ,sS,i64_w,i32_w];rfl) ?_
     refine one_ (i:=7) (N:=some 45) #[tT,tT,tT,tT,tT,tT,tT,tT,fF,fF,fF,fF] rfl rfl (by kernel_rfl) (by decide) (fun K hK=>?_)
     refine goes_ Try.func52 (by kernel_rfl) rfl #[.agg #[.string q1,.string q2]] (by rfl) rfl rfl (by simp only [sM,sC,sN];rfl) ?_
     with_reducible refine (CH.out _).mono ?_
     rintro e wC ⟨rfl,hb⟩
     refine ⟨_,rfl,?_⟩
     have nHR_:=aM (blk_below (HR.out) hb);have nHB_:=aM (HB.out.trans (hb.mono (HB.out.size)))
     clear hb HR HB
     have HR:=nHR_
     have HB:=nHB_
     clear nHR_ nHB_
     have K0:=(blk_cell HR.out 0).trans rfl
     have K1:=(blk_cell HR.out 1).trans rfl
     have F0:=blk_frozen HR.out 0
     have F1:=blk_frozen HR.out 1
     refine hK.out _ _ trivial (fun hHeld=>?_)
     clear hK K
     refine norm_ (a':=_) (by show Act.put _ _ _=_;simp only [Act.put,sI,sZ,sS,i64_w,i32_w];rfl) ?_
     refine pure_ (i:=8) (N:=some 46) (v:=?_) (a':=?_) #[tT,tT,tT,tT,tT,tT,tT,tT,tT,fF,fF,fF] rfl rfl (by kernel_rfl) (fun _ _ _ h=>h) (Or.inl ⟨by rfl,?_⟩) ?_ ?_
     rotate_left
     ·intro w'
      go_simp
      with_reducible rfl
     rotate_left
     ·simp only [Act.put,sI,sZ,sS,i64_w,i32_w]
      rfl
     refine pure_ (i:=9) (N:=some 47) (v:=?_) (a':=?_) #[tT,tT,tT,tT,tT,tT,tT,tT,tT,tT,fF,fF] rfl rfl (by kernel_rfl) (fun _ _ _ h=>h) (Or.inl ⟨by rfl,?_⟩) ?_ ?_
     rotate_left
     ·intro w'
      go_simp
      with_reducible rfl
     rotate_left
     ·simp only [Act.put,sI,sZ,sS,i64_w,i32_w]
      rfl
     refine one_ (i:=10) (N:=none) #[tT,tT,tT,tT,tT,tT,tT,tT,tT,tT,tT,fF] rfl rfl (by kernel_rfl) (by decide) (fun K hK=>?_)
     refine skip_ (w1:=?_) (by rfl) rfl ?_ ?_
     rotate_left
     ·go_simp
      rfl
     refine hK.out _ _ trivial (fun hHeld=>?_)
     clear hK K
     refine pure_ (i:=11) (N:=some 5) (v:=?_) (a':=?_) #[tT,tT,tT,tT,tT,tT,tT,tT,tT,tT,tT,tT] rfl rfl (by kernel_rfl) (fun _ _ _ h=>h) (Or.inl ⟨by rfl,?_⟩) ?_ ?_
     rotate_left
     ·intro w'
      go_simp
      with_reducible rfl
     rotate_left
     ·simp only [Act.put,sI,sZ,sS,i64_w,i32_w]
      rfl
     refine done_ (by kernel_rfl) ?_
     try go_wp2
     refine bodyPost_ret (results_ct rfl _ _ (w.heap.size + 1 + 1) 25 #[.string r1,.string r2] (0,0) _ rfl (by first|exact blk_put (cs:=#[.string r1,.string ⟨#[]⟩]) (blk_put (cs:=#[.string ⟨#[]⟩,.string ⟨#[]⟩]) HR.out 0 _ rfl) 1 _ rfl) Try.underlying25 rfl (by kernel_rfl)) rfl ?_
     exact ⟨rfl,zS (zS HB.out (by omega)) (by omega)⟩
    | none =>
     rw [hi] at H
     obtain ⟨⟨lt,st⟩,h4,H⟩:=Option.bind_eq_some_iff.1 H
     have hhas:=(HT.out.2 p kl hkl).1 hi
     have CV:Aside0 (∀ W,Calls Try.prog 53 #[.agg #[.string p.p0,.string p.p1,.string p.p2,.string p.p3,.string p.p4,.string p.p5]] W fun e w'=>e = .returned (.tuple #[.int .u8 lt,.int .i64 st]) ∧ Below W.heap.size W w'):=⟨fun W=>impl_three_vote.calls _ _ _ _ _ _ lt st W h4⟩
     clear h4
     replace H:(if 0 ≤ st then (if st = 0 then midEnd gk (wd ++ p.p0) p.p1 else if st = 1 then midEnd gk (wd ++ p.p2) p.p3 else if st = 2 then midEnd gk (wd ++ p.p4) p.p5 else none)
      else if wd.size = 600 then some (⟨#[]⟩,⟨#[]⟩,3)
      else if lt = 48 ∨ lt = 49 then (impl_Sequence_moved.f a0_0 a0_1 p.p0 p.p1 p.p2 p.p3 p.p4 p.p5 lt).bind fun y=>impl_Sequence_middle.l a0_0 a0_1 gk ⟨y.1,y.2.1,y.2.2.1,y.2.2.2.1,y.2.2.2.2.1,y.2.2.2.2.2⟩ (wd ++ Utf8.encode lt) (seen ++ [p])
      else none) = some (r1,r2,r3):=H
     by_cases hst:0 ≤ st
     ·rw [if_pos hst] at H
      have hst':st = 0 ∨ st = 1 ∨ st = 2:=by
       by_cases e0:st = 0
       ·exact .inl e0
       by_cases e1:st = 1
       ·exact .inr (.inl e1)
       by_cases e2:st = 2
       ·exact .inr (.inr e2)
       rw [if_neg e0,if_neg e1,if_neg e2] at H
       cases H
      clear hst
      rcases hst' with e0|e1|e2
      ·subst e0
       replace H:midEnd gk (wd ++ p.p0) p.p1 = some (r1,r2,r3):=H
       obtain ⟨q1,q2,h2,h3⟩:=short_parts H
       have CS:Aside0 (∀ W,Calls Try.prog 43 #[.string (wd ++ p.p0),.string p.p1] W fun e w'=>e = .returned (.agg #[.string q1,.string q2]) ∧ Below W.heap.size W w'):=⟨fun W=>(impl_sequence.calls gk _ _ q1 q2 W h2).mono fun e w' hh=>hh⟩
       have CH:Aside0 (∀ W,Calls Try.prog 52 #[.agg #[.string q1,.string q2]] W fun e w'=>e = .returned (.tuple #[.agg #[.string r1,.string r2],.int .i64 r3]) ∧ Below W.heap.size W w'):=⟨fun W=>(impl_short.calls _ _ r1 r2 r3 W h3).mono fun e w' ⟨he,hd⟩=>⟨he,by first|exact hd|exact hd.below⟩⟩
       clear H h2 h3
       have hcat:=eq_true (show wd.size + p.p0.size ≤ 9223372036854775807 by have:=pok.1;omega)
       have hcat2:=eq_false (show ¬ 9223372036854775807 < wd.size + p.p0.size by have:=pok.1;omega)
       go_wp2_with (first|(go_at_call 51;refine (CT.out _).mono ?_;rintro e wA ⟨rfl,hb⟩;have nHV_:=aM (blk_below (HV.out) hb);have nHP_:=aM (blk_below (HP.out) hb);have nHR_:=aM (blk_below (HR.out) hb);have nHO_:=aM (blk_below (HO.out) hb);have nHB_:=aM (HB.out.trans (hb.mono (HB.out.size)));have nHZ_:=aM (Nat.le_trans HZ.out (hb.size));clear hb HV HP HR HO HB HZ;have HV:=nHV_;have HP:=nHP_;have HR:=nHR_;have HO:=nHO_;have HB:=nHB_;have HZ:=nHZ_;clear nHV_ nHP_ nHR_ nHO_ nHB_ nHZ_;have G0:=(blk_cell (yA HP.out (.cells #[.string s1,.string s2] 25)) 0).trans rfl;have G1:=(blk_cell (yA HP.out (.cells #[.string s1,.string s2] 25)) 1).trans rfl;have G2:=(blk_cell (yA HP.out (.cells #[.string s1,.string s2] 25)) 2).trans rfl;have G3:=(blk_cell (yA HP.out (.cells #[.string s1,.string s2] 25)) 3).trans rfl;have G4:=(blk_cell (yA HP.out (.cells #[.string s1,.string s2] 25)) 4).trans rfl;have G5:=(blk_cell (yA HP.out (.cells #[.string s1,.string s2] 25)) 5).trans rfl)|(at_lookup;refine wpList_lookup_own_ok_int _ rfl _ _ 77 rfl 51 3 .i64 law37 u51 u3 (zero3 _) (w.heap.size + 1 + 1 + 1) seen.length D rfl (HM.out _ (yA HO.out _)) _ kl rfl hkl ?_;intro c hat hwc;rw [hhas];clear hat hwc)|(go_at_call 53;refine (CV.out _).mono ?_;rintro e wB ⟨rfl,hb⟩;have nHV_:=aM (blk_below (yA HV.out _) hb);have nHP_:=aM (blk_below (yA HP.out _) hb);have nHR_:=aM (blk_below (yA HR.out _) hb);have nHO_:=aM (blk_below (yA HO.out _) hb);have nHB_:=aM ((HB.out.alloc HB.out.size _).trans (hb.mono (by have:=HB.out.size;simp;omega)));have nHZ_:=aM (Nat.le_trans HZ.out (Nat.le_trans (by simp) hb.size));clear hb HV HP HR HO HB HZ;have HV:=nHV_;have HP:=nHP_;have HR:=nHR_;have HO:=nHO_;have HB:=nHB_;have HZ:=nHZ_;clear nHV_ nHP_ nHR_ nHO_ nHB_ nHZ_;have G0:=(blk_cell HP.out 0).trans rfl;have G1:=(blk_cell HP.out 1).trans rfl;have G2:=(blk_cell HP.out 2).trans rfl;have G3:=(blk_cell HP.out 3).trans rfl;have G4:=(blk_cell HP.out 4).trans rfl;have G5:=(blk_cell HP.out 5).trans rfl;have K0:=(blk_cell HR.out 0).trans rfl;have K1:=(blk_cell HR.out 1).trans rfl;have F0:=blk_frozen HR.out 0;have F1:=blk_frozen HR.out 1))
       have nP:=aM (yD HP.out);have nR:=aM (yD HR.out);have nB:=aM (zD HB.out)
       clear HR HB HV HP HO HM HT HZ
       have HP:=nP
       have HR:=nR
       have HB:=nB
       clear nP nR nB
       refine start_ (n:=16) (S:=fun w'=>w'.cell? ⟨w.heap.size + 1,0,none⟩ = some (.string p.p0) ∧ w'.cell? ⟨w.heap.size + 1,1,none⟩ = some (.string p.p1)) (ds:=[]) #[fF,fF,fF,fF,fF,fF,fF,fF,fF,fF,fF,fF,fF,fF,fF,fF] (by kernel_rfl) rfl rfl ⟨(blk_cell HP.out 0).trans rfl,(blk_cell HP.out 1).trans rfl⟩ (fun hHeld=>?_)
       refine pure_ (i:=0) (N:=some 55) (v:=?_) (a':=?_) #[tT,fF,fF,fF,fF,fF,fF,fF,fF,fF,fF,fF,fF,fF,fF,fF] rfl rfl (by kernel_rfl) (fun _ _ _ h=>h) (Or.inl ⟨by rfl,?_⟩) ?_ ?_
       rotate_left
       ·intro w'
        go_simp
        with_reducible rfl
       rotate_left
       ·simp only [Act.put,sI,sZ,sS,i64_w,i32_w]
        rfl
       refine pure_ (i:=1) (N:=some 56) (v:=?_) (a':=?_) #[tT,tT,fF,fF,fF,fF,fF,fF,fF,fF,fF,fF,fF,fF,fF,fF] rfl rfl (by kernel_rfl) (fun _ _ _ h=>h) (Or.inl ⟨by rfl,?_⟩) ?_ ?_
       rotate_left
       ·intro w'
        go_simp
        with_reducible rfl
       rotate_left
       ·simp only [Act.put,sI,sZ,sS,i64_w,i32_w]
        rfl
       refine pure_ (i:=2) (N:=some 57) (v:=?_) (a':=?_) #[tT,tT,tT,fF,fF,fF,fF,fF,fF,fF,fF,fF,fF,fF,fF,fF] rfl rfl (by kernel_rfl) (fun _ _ _ h=>h) (Or.inl ⟨by rfl,?_⟩) ?_ ?_
       rotate_left
       ·intro w'
        go_simp
        with_reducible rfl
       rotate_left
       ·simp only [Act.put,sI,sZ,sS,i64_w,i32_w]
        rfl
       refine pure_ (i:=3) (N:=some 58) (v:=?_) (a':=?_) #[tT,tT,tT,tT,fF,fF,fF,fF,fF,fF,fF,fF,fF,fF,fF,fF] rfl rfl (by kernel_rfl) (fun _ _ _ h=>h) (Or.inl ⟨by rfl,?_⟩) ?_ ?_
       rotate_left
       ·intro w'
        go_simp
        with_reducible rfl
       rotate_left
       ·simp only [Act.put,sI,sZ,sS,i64_w,i32_w]
        rfl
       refine pure_ (i:=6) (N:=some 61) (v:=?_) (a':=?_) #[tT,tT,tT,tT,fF,fF,tT,fF,fF,fF,fF,fF,fF,fF,fF,fF] rfl rfl (by kernel_rfl) (fun _ _ _ h=>h) (Or.inl ⟨by rfl,?_⟩) ?_ ?_
       rotate_left
       ·intro w'
        go_simp
        with_reducible rfl
       rotate_left
       ·simp only [Act.put,sI,sZ,sS,i64_w,i32_w]
        rfl
       refine pure_ (i:=7) (N:=some 62) (v:=?_) (a':=?_) #[tT,tT,tT,tT,fF,fF,tT,tT,fF,fF,fF,fF,fF,fF,fF,fF] rfl rfl (by kernel_rfl) (fun _ _ _ h=>h) (Or.inl ⟨by rfl,?_⟩) ?_ ?_
       rotate_left
       ·intro w'
        go_simp
        with_reducible rfl
       rotate_left
       ·simp only [Act.put,sI,sZ,sS,i64_w,i32_w]
        rfl
       refine pure_ (i:=8) (N:=some 63) (v:=?_) (a':=?_) #[tT,tT,tT,tT,fF,fF,tT,tT,tT,fF,fF,fF,fF,fF,fF,fF] rfl rfl (by kernel_rfl) (fun _ _ _ h=>h) (Or.inl ⟨by rfl,?_⟩) ?_ ?_
       rotate_left
       ·intro w'
        go_simp
        with_reducible rfl
       rotate_left
       ·simp only [Act.put,sI,sZ,sS,i64_w,i32_w]
        rfl
       refine take_ (i:=4) (N:=some 59) (v:=?_) (a':=?_) #[tT,tT,tT,tT,tT,fF,tT,tT,tT,fF,fF,fF,fF,fF,fF,fF] rfl rfl (by kernel_rfl) (fun _ _ _ h=>h) (Or.inl ⟨by rfl,?_⟩) hHeld ?_ ?_
       rotate_left
       ·rintro w' ⟨s0,s1⟩
        go_simp
        with_reducible rfl
       rotate_left
       ·simp only [Act.put,sI,sZ,sS,i64_w,i32_w]
        rfl
       refine pure_ (i:=5) (N:=some 60) (v:=?_) (a':=?_) #[tT,tT,tT,tT,tT,tT,tT,tT,tT,fF,fF,fF,fF,fF,fF,fF] rfl rfl (by kernel_rfl) (fun _ _ _ h=>h) (Or.inl ⟨by rfl,?_⟩) ?_ ?_
       rotate_left
       ·intro w'
        go_simp
        with_reducible rfl
       rotate_left
       ·simp only [Act.put,sI,sZ,sS,i64_w,i32_w]
        rfl
       refine take_ (i:=9) (N:=some 64) (v:=?_) (a':=?_) #[tT,tT,tT,tT,tT,tT,tT,tT,tT,tT,fF,fF,fF,fF,fF,fF] rfl rfl (by kernel_rfl) (fun _ _ _ h=>h) (Or.inl ⟨by rfl,?_⟩) hHeld ?_ ?_
       rotate_left
       ·rintro w' ⟨s0,s1⟩
        go_simp
        with_reducible rfl
       rotate_left
       ·simp only [Act.put,sI,sZ,sS,i64_w,i32_w]
        rfl
       refine one_ (i:=10) (N:=some 65) #[tT,tT,tT,tT,tT,tT,tT,tT,tT,tT,tT,fF,fF,fF,fF,fF] rfl rfl (by kernel_rfl) (by decide) (fun K hK=>?_)
       refine goes_ Try.func43 (by kernel_rfl) rfl #[.string (wd ++ p.p0),.string p.p1] (by rfl) rfl rfl (by simp only [sM,sC,sN];rfl) ?_
       with_reducible refine (CS.out _).mono ?_
       rintro e wC ⟨rfl,hb⟩
       refine ⟨_,rfl,?_⟩
       have nHP_:=aM (blk_below (HP.out) hb);have nHR_:=aM (blk_below (HR.out) hb);have nHB_:=aM (HB.out.trans (hb.mono (HB.out.size)))
       clear hb HP HR HB
       have HP:=nHP_
       have HR:=nHR_
       have HB:=nHB_
       clear nHP_ nHR_ nHB_
       refine hK.out _ _ ⟨(blk_cell HP.out 0).trans rfl,(blk_cell HP.out 1).trans rfl⟩ (fun hHeld=>?_)
       clear hK K
       refine norm_ (a':=_) (by show Act.put _ _ _=_;simp only [Act.put,sI,sZ,sS,i64_w,i32_w];rfl) ?_
       refine one_ (i:=11) (N:=some 66) #[tT,tT,tT,tT,tT,tT,tT,tT,tT,tT,tT,tT,fF,fF,fF,fF] rfl rfl (by kernel_rfl) (by decide) (fun K hK=>?_)
       refine goes_ Try.func52 (by kernel_rfl) rfl #[.agg #[.string q1,.string q2]] (by rfl) rfl rfl (by simp only [sM,sC,sN];rfl) ?_
       with_reducible refine (CH.out _).mono ?_
       rintro e wD ⟨rfl,hb⟩
       refine ⟨_,rfl,?_⟩
       have nHP_:=aM (blk_below (HP.out) hb);have nHR_:=aM (blk_below (HR.out) hb);have nHB_:=aM (HB.out.trans (hb.mono (HB.out.size)))
       clear hb HP HR HB
       have HP:=nHP_
       have HR:=nHR_
       have HB:=nHB_
       clear nHP_ nHR_ nHB_
       have K0:=(blk_cell HR.out 0).trans rfl
       have K1:=(blk_cell HR.out 1).trans rfl
       have F0:=blk_frozen HR.out 0
       have F1:=blk_frozen HR.out 1
       refine hK.out _ _ ⟨(blk_cell HP.out 0).trans rfl,(blk_cell HP.out 1).trans rfl⟩ (fun hHeld=>?_)
       clear hK K
       refine norm_ (a':=_) (by show Act.put _ _ _=_;simp only [Act.put,sI,sZ,sS,i64_w,i32_w];rfl) ?_
       refine pure_ (i:=12) (N:=some 67) (v:=?_) (a':=?_) #[tT,tT,tT,tT,tT,tT,tT,tT,tT,tT,tT,tT,tT,fF,fF,fF] rfl rfl (by kernel_rfl) (fun _ _ _ h=>h) (Or.inl ⟨by rfl,?_⟩) ?_ ?_
       rotate_left
       ·intro w'
        go_simp
        with_reducible rfl
       rotate_left
       ·simp only [Act.put,sI,sZ,sS,i64_w,i32_w]
        rfl
       refine pure_ (i:=13) (N:=some 68) (v:=?_) (a':=?_) #[tT,tT,tT,tT,tT,tT,tT,tT,tT,tT,tT,tT,tT,tT,fF,fF] rfl rfl (by kernel_rfl) (fun _ _ _ h=>h) (Or.inl ⟨by rfl,?_⟩) ?_ ?_
       rotate_left
       ·intro w'
        go_simp
        with_reducible rfl
       rotate_left
       ·simp only [Act.put,sI,sZ,sS,i64_w,i32_w]
        rfl
       refine one_ (i:=14) (N:=none) #[tT,tT,tT,tT,tT,tT,tT,tT,tT,tT,tT,tT,tT,tT,tT,fF] rfl rfl (by kernel_rfl) (by decide) (fun K hK=>?_)
       refine skip_ (w1:=?_) (by rfl) rfl ?_ ?_
       rotate_left
       ·go_simp
        rfl
       refine hK.out _ _ ⟨(blk_cell (blk_far (blk_far HP.out (by first|(simp;done)|(simp;omega)) _) (by first|(simp;done)|(simp;omega)) _) 0).trans rfl,(blk_cell (blk_far (blk_far HP.out (by first|(simp;done)|(simp;omega)) _) (by first|(simp;done)|(simp;omega)) _) 1).trans rfl⟩ (fun hHeld=>?_)
       clear hK K
       refine pure_ (i:=15) (N:=some 5) (v:=?_) (a':=?_) #[tT,tT,tT,tT,tT,tT,tT,tT,tT,tT,tT,tT,tT,tT,tT,tT] rfl rfl (by kernel_rfl) (fun _ _ _ h=>h) (Or.inl ⟨by rfl,?_⟩) ?_ ?_
       rotate_left
       ·intro w'
        go_simp
        with_reducible rfl
       rotate_left
       ·simp only [Act.put,sI,sZ,sS,i64_w,i32_w]
        rfl
       refine done_ (by kernel_rfl) ?_
       try go_wp2
       refine bodyPost_ret (results_ct rfl _ _ (w.heap.size + 1 + 1) 25 #[.string r1,.string r2] (0,0) _ rfl (by first|exact blk_put (cs:=#[.string r1,.string ⟨#[]⟩]) (blk_put (cs:=#[.string ⟨#[]⟩,.string ⟨#[]⟩]) HR.out 0 _ rfl) 1 _ rfl) Try.underlying25 rfl (by kernel_rfl)) rfl ?_
       exact ⟨rfl,zS (zS HB.out (by omega)) (by omega)⟩
      ·subst e1
       replace H:midEnd gk (wd ++ p.p2) p.p3 = some (r1,r2,r3):=H
       obtain ⟨q1,q2,h2,h3⟩:=short_parts H
       have CS:Aside0 (∀ W,Calls Try.prog 43 #[.string (wd ++ p.p2),.string p.p3] W fun e w'=>e = .returned (.agg #[.string q1,.string q2]) ∧ Below W.heap.size W w'):=⟨fun W=>(impl_sequence.calls gk _ _ q1 q2 W h2).mono fun e w' hh=>hh⟩
       have CH:Aside0 (∀ W,Calls Try.prog 52 #[.agg #[.string q1,.string q2]] W fun e w'=>e = .returned (.tuple #[.agg #[.string r1,.string r2],.int .i64 r3]) ∧ Below W.heap.size W w'):=⟨fun W=>(impl_short.calls _ _ r1 r2 r3 W h3).mono fun e w' ⟨he,hd⟩=>⟨he,by first|exact hd|exact hd.below⟩⟩
       clear H h2 h3
       have hcat:=eq_true (show wd.size + p.p2.size ≤ 9223372036854775807 by have:=pok.2.2.1;omega)
       have hcat2:=eq_false (show ¬ 9223372036854775807 < wd.size + p.p2.size by have:=pok.2.2.1;omega)
       go_wp2_with (first|(go_at_call 51;refine (CT.out _).mono ?_;rintro e wA ⟨rfl,hb⟩;have nHV_:=aM (blk_below (HV.out) hb);have nHP_:=aM (blk_below (HP.out) hb);have nHR_:=aM (blk_below (HR.out) hb);have nHO_:=aM (blk_below (HO.out) hb);have nHB_:=aM (HB.out.trans (hb.mono (HB.out.size)));have nHZ_:=aM (Nat.le_trans HZ.out (hb.size));clear hb HV HP HR HO HB HZ;have HV:=nHV_;have HP:=nHP_;have HR:=nHR_;have HO:=nHO_;have HB:=nHB_;have HZ:=nHZ_;clear nHV_ nHP_ nHR_ nHO_ nHB_ nHZ_;have G0:=(blk_cell (yA HP.out (.cells #[.string s1,.string s2] 25)) 0).trans rfl;have G1:=(blk_cell (yA HP.out (.cells #[.string s1,.string s2] 25)) 1).trans rfl;have G2:=(blk_cell (yA HP.out (.cells #[.string s1,.string s2] 25)) 2).trans rfl;have G3:=(blk_cell (yA HP.out (.cells #[.string s1,.string s2] 25)) 3).trans rfl;have G4:=(blk_cell (yA HP.out (.cells #[.string s1,.string s2] 25)) 4).trans rfl;have G5:=(blk_cell (yA HP.out (.cells #[.string s1,.string s2] 25)) 5).trans rfl)|(at_lookup;refine wpList_lookup_own_ok_int _ rfl _ _ 77 rfl 51 3 .i64 law37 u51 u3 (zero3 _) (w.heap.size + 1 + 1 + 1) seen.length D rfl (HM.out _ (yA HO.out _)) _ kl rfl hkl ?_;intro c hat hwc;rw [hhas];clear hat hwc)|(go_at_call 53;refine (CV.out _).mono ?_;rintro e wB ⟨rfl,hb⟩;have nHV_:=aM (blk_below (yA HV.out _) hb);have nHP_:=aM (blk_below (yA HP.out _) hb);have nHR_:=aM (blk_below (yA HR.out _) hb);have nHO_:=aM (blk_below (yA HO.out _) hb);have nHB_:=aM ((HB.out.alloc HB.out.size _).trans (hb.mono (by have:=HB.out.size;simp;omega)));have nHZ_:=aM (Nat.le_trans HZ.out (Nat.le_trans (by simp) hb.size));clear hb HV HP HR HO HB HZ;have HV:=nHV_;have HP:=nHP_;have HR:=nHR_;have HO:=nHO_;have HB:=nHB_;have HZ:=nHZ_;clear nHV_ nHP_ nHR_ nHO_ nHB_ nHZ_;have G0:=(blk_cell HP.out 0).trans rfl;have G1:=(blk_cell HP.out 1).trans rfl;have G2:=(blk_cell HP.out 2).trans rfl;have G3:=(blk_cell HP.out 3).trans rfl;have G4:=(blk_cell HP.out 4).trans rfl;have G5:=(blk_cell HP.out 5).trans rfl;have K0:=(blk_cell HR.out 0).trans rfl;have K1:=(blk_cell HR.out 1).trans rfl;have F0:=blk_frozen HR.out 0;have F1:=blk_frozen HR.out 1))
       have nP:=aM (yD HP.out);have nR:=aM (yD HR.out);have nB:=aM (zD HB.out)
       clear HR HB HV HP HO HM HT HZ
       have HP:=nP
       have HR:=nR
       have HB:=nB
       clear nP nR nB
       refine start_ (n:=16) (S:=fun w'=>w'.cell? ⟨w.heap.size + 1,2,none⟩ = some (.string p.p2) ∧ w'.cell? ⟨w.heap.size + 1,3,none⟩ = some (.string p.p3)) (ds:=[]) #[fF,fF,fF,fF,fF,fF,fF,fF,fF,fF,fF,fF,fF,fF,fF,fF] (by kernel_rfl) rfl rfl ⟨(blk_cell HP.out 2).trans rfl,(blk_cell HP.out 3).trans rfl⟩ (fun hHeld=>?_)
       refine pure_ (i:=0) (N:=some 55) (v:=?_) (a':=?_) #[tT,fF,fF,fF,fF,fF,fF,fF,fF,fF,fF,fF,fF,fF,fF,fF] rfl rfl (by kernel_rfl) (fun _ _ _ h=>h) (Or.inl ⟨by rfl,?_⟩) ?_ ?_
       rotate_left
       ·intro w'
        go_simp
        with_reducible rfl
       rotate_left
       ·simp only [Act.put,sI,sZ,sS,i64_w,i32_w]
        rfl
       refine pure_ (i:=1) (N:=some 56) (v:=?_) (a':=?_) #[tT,tT,fF,fF,fF,fF,fF,fF,fF,fF,fF,fF,fF,fF,fF,fF] rfl rfl (by kernel_rfl) (fun _ _ _ h=>h) (Or.inl ⟨by rfl,?_⟩) ?_ ?_
       rotate_left
       ·intro w'
        go_simp
        with_reducible rfl
       rotate_left
       ·simp only [Act.put,sI,sZ,sS,i64_w,i32_w]
        rfl
       refine pure_ (i:=2) (N:=some 57) (v:=?_) (a':=?_) #[tT,tT,tT,fF,fF,fF,fF,fF,fF,fF,fF,fF,fF,fF,fF,fF] rfl rfl (by kernel_rfl) (fun _ _ _ h=>h) (Or.inl ⟨by rfl,?_⟩) ?_ ?_
       rotate_left
       ·intro w'
        go_simp
        with_reducible rfl
       rotate_left
       ·simp only [Act.put,sI,sZ,sS,i64_w,i32_w]
        rfl
       refine pure_ (i:=3) (N:=some 58) (v:=?_) (a':=?_) #[tT,tT,tT,tT,fF,fF,fF,fF,fF,fF,fF,fF,fF,fF,fF,fF] rfl rfl (by kernel_rfl) (fun _ _ _ h=>h) (Or.inl ⟨by rfl,?_⟩) ?_ ?_
       rotate_left
       ·intro w'
        go_simp
        with_reducible rfl
       rotate_left
       ·simp only [Act.put,sI,sZ,sS,i64_w,i32_w]
        rfl
       refine pure_ (i:=6) (N:=some 61) (v:=?_) (a':=?_) #[tT,tT,tT,tT,fF,fF,tT,fF,fF,fF,fF,fF,fF,fF,fF,fF] rfl rfl (by kernel_rfl) (fun _ _ _ h=>h) (Or.inl ⟨by rfl,?_⟩) ?_ ?_
       rotate_left
       ·intro w'
        go_simp
        with_reducible rfl
       rotate_left
       ·simp only [Act.put,sI,sZ,sS,i64_w,i32_w]
        rfl
       refine pure_ (i:=7) (N:=some 62) (v:=?_) (a':=?_) #[tT,tT,tT,tT,fF,fF,tT,tT,fF,fF,fF,fF,fF,fF,fF,fF] rfl rfl (by kernel_rfl) (fun _ _ _ h=>h) (Or.inl ⟨by rfl,?_⟩) ?_ ?_
       rotate_left
       ·intro w'
        go_simp
        with_reducible rfl
       rotate_left
       ·simp only [Act.put,sI,sZ,sS,i64_w,i32_w]
        rfl
       refine pure_ (i:=8) (N:=some 63) (v:=?_) (a':=?_) #[tT,tT,tT,tT,fF,fF,tT,tT,tT,fF,fF,fF,fF,fF,fF,fF] rfl rfl (by kernel_rfl) (fun _ _ _ h=>h) (Or.inl ⟨by rfl,?_⟩) ?_ ?_
       rotate_left
       ·intro w'
        go_simp
        with_reducible rfl
       rotate_left
       ·simp only [Act.put,sI,sZ,sS,i64_w,i32_w]
        rfl
       refine take_ (i:=4) (N:=some 59) (v:=?_) (a':=?_) #[tT,tT,tT,tT,tT,fF,tT,tT,tT,fF,fF,fF,fF,fF,fF,fF] rfl rfl (by kernel_rfl) (fun _ _ _ h=>h) (Or.inl ⟨by rfl,?_⟩) hHeld ?_ ?_
       rotate_left
       ·rintro w' ⟨s0,s1⟩
        go_simp
        with_reducible rfl
       rotate_left
       ·simp only [Act.put,sI,sZ,sS,i64_w,i32_w]
        rfl
       refine pure_ (i:=5) (N:=some 60) (v:=?_) (a':=?_) #[tT,tT,tT,tT,tT,tT,tT,tT,tT,fF,fF,fF,fF,fF,fF,fF] rfl rfl (by kernel_rfl) (fun _ _ _ h=>h) (Or.inl ⟨by rfl,?_⟩) ?_ ?_
       rotate_left
       ·intro w'
        go_simp
        with_reducible rfl
       rotate_left
       ·simp only [Act.put,sI,sZ,sS,i64_w,i32_w]
        rfl
       refine take_ (i:=9) (N:=some 64) (v:=?_) (a':=?_) #[tT,tT,tT,tT,tT,tT,tT,tT,tT,tT,fF,fF,fF,fF,fF,fF] rfl rfl (by kernel_rfl) (fun _ _ _ h=>h) (Or.inl ⟨by rfl,?_⟩) hHeld ?_ ?_
       rotate_left
       ·rintro w' ⟨s0,s1⟩
        go_simp
        with_reducible rfl
       rotate_left
       ·simp only [Act.put,sI,sZ,sS,i64_w,i32_w]
        rfl
       refine one_ (i:=10) (N:=some 65) #[tT,tT,tT,tT,tT,tT,tT,tT,tT,tT,tT,fF,fF,fF,fF,fF] rfl rfl (by kernel_rfl) (by decide) (fun K hK=>?_)
       refine goes_ Try.func43 (by kernel_rfl) rfl #[.string (wd ++ p.p2),.string p.p3] (by rfl) rfl rfl (by simp only [sM,sC,sN];rfl) ?_
       with_reducible refine (CS.out _).mono ?_
       rintro e wC ⟨rfl,hb⟩
       refine ⟨_,rfl,?_⟩
       have nHP_:=aM (blk_below (HP.out) hb);have nHR_:=aM (blk_below (HR.out) hb);have nHB_:=aM (HB.out.trans (hb.mono (HB.out.size)))
       clear hb HP HR HB
       have HP:=nHP_
       have HR:=nHR_
       have HB:=nHB_
       clear nHP_ nHR_ nHB_
       refine hK.out _ _ ⟨(blk_cell HP.out 2).trans rfl,(blk_cell HP.out 3).trans rfl⟩ (fun hHeld=>?_)
       clear hK K
       refine norm_ (a':=_) (by show Act.put _ _ _=_;simp only [Act.put,sI,sZ,sS,i64_w,i32_w];rfl) ?_
       refine one_ (i:=11) (N:=some 66) #[tT,tT,tT,tT,tT,tT,tT,tT,tT,tT,tT,tT,fF,fF,fF,fF] rfl rfl (by kernel_rfl) (by decide) (fun K hK=>?_)
       refine goes_ Try.func52 (by kernel_rfl) rfl #[.agg #[.string q1,.string q2]] (by rfl) rfl rfl (by simp only [sM,sC,sN];rfl) ?_
       with_reducible refine (CH.out _).mono ?_
       rintro e wD ⟨rfl,hb⟩
       refine ⟨_,rfl,?_⟩
       have nHP_:=aM (blk_below (HP.out) hb);have nHR_:=aM (blk_below (HR.out) hb);have nHB_:=aM (HB.out.trans (hb.mono (HB.out.size)))
       clear hb HP HR HB
       have HP:=nHP_
       have HR:=nHR_
       have HB:=nHB_
       clear nHP_ nHR_ nHB_
       have K0:=(blk_cell HR.out 0).trans rfl
       have K1:=(blk_cell HR.out 1).trans rfl
       have F0:=blk_frozen HR.out 0
       have F1:=blk_frozen HR.out 1
       refine hK.out _ _ ⟨(blk_cell HP.out 2).trans rfl,(blk_cell HP.out 3).trans rfl⟩ (fun hHeld=>?_)
       clear hK K
       refine norm_ (a':=_) (by show Act.put _ _ _=_;simp only [Act.put,sI,sZ,sS,i64_w,i32_w];rfl) ?_
       refine pure_ (i:=12) (N:=some 67) (v:=?_) (a':=?_) #[tT,tT,tT,tT,tT,tT,tT,tT,tT,tT,tT,tT,tT,fF,fF,fF] rfl rfl (by kernel_rfl) (fun _ _ _ h=>h) (Or.inl ⟨by rfl,?_⟩) ?_ ?_
       rotate_left
       ·intro w'
        go_simp
        with_reducible rfl
       rotate_left
       ·simp only [Act.put,sI,sZ,sS,i64_w,i32_w]
        rfl
       refine pure_ (i:=13) (N:=some 68) (v:=?_) (a':=?_) #[tT,tT,tT,tT,tT,tT,tT,tT,tT,tT,tT,tT,tT,tT,fF,fF] rfl rfl (by kernel_rfl) (fun _ _ _ h=>h) (Or.inl ⟨by rfl,?_⟩) ?_ ?_
       rotate_left
       ·intro w'
        go_simp
        with_reducible rfl
       rotate_left
       ·simp only [Act.put,sI,sZ,sS,i64_w,i32_w]
        rfl
       refine one_ (i:=14) (N:=none) #[tT,tT,tT,tT,tT,tT,tT,tT,tT,tT,tT,tT,tT,tT,tT,fF] rfl rfl (by kernel_rfl) (by decide) (fun K hK=>?_)
       refine skip_ (w1:=?_) (by rfl) rfl ?_ ?_
       rotate_left
       ·go_simp
        rfl
       refine hK.out _ _ ⟨(blk_cell (blk_far (blk_far HP.out (by first|(simp;done)|(simp;omega)) _) (by first|(simp;done)|(simp;omega)) _) 2).trans rfl,(blk_cell (blk_far (blk_far HP.out (by first|(simp;done)|(simp;omega)) _) (by first|(simp;done)|(simp;omega)) _) 3).trans rfl⟩ (fun hHeld=>?_)
       clear hK K
       refine pure_ (i:=15) (N:=some 5) (v:=?_) (a':=?_) #[tT,tT,tT,tT,tT,tT,tT,tT,tT,tT,tT,tT,tT,tT,tT,tT] rfl rfl (by kernel_rfl) (fun _ _ _ h=>h) (Or.inl ⟨by rfl,?_⟩) ?_ ?_
       rotate_left
       ·intro w'
        go_simp
        with_reducible rfl
       rotate_left
       ·simp only [Act.put,sI,sZ,sS,i64_w,i32_w]
        rfl
       refine done_ (by kernel_rfl) ?_
       try go_wp2
       refine bodyPost_ret (results_ct rfl _ _ (w.heap.size + 1 + 1) 25 #[.string r1,.string r2] (0,0) _ rfl (by first|exact blk_put (cs:=#[.string r1,.string ⟨#[]⟩]) (blk_put (cs:=#[.string ⟨#[]⟩,.string ⟨#[]⟩]) HR.out 0 _ rfl) 1 _ rfl) Try.underlying25 rfl (by kernel_rfl)) rfl ?_
       exact ⟨rfl,zS (zS HB.out (by omega)) (by omega)⟩
      ·subst e2
       replace H:midEnd gk (wd ++ p.p4) p.p5 = some (r1,r2,r3):=H
       obtain ⟨q1,q2,h2,h3⟩:=short_parts H
       have CS:Aside0 (∀ W,Calls Try.prog 43 #[.string (wd ++ p.p4),.string p.p5] W fun e w'=>e = .returned (.agg #[.string q1,.string q2]) ∧ Below W.heap.size W w'):=⟨fun W=>(impl_sequence.calls gk _ _ q1 q2 W h2).mono fun e w' hh=>hh⟩
       have CH:Aside0 (∀ W,Calls Try.prog 52 #[.agg #[.string q1,.string q2]] W fun e w'=>e = .returned (.tuple #[.agg #[.string r1,.string r2],.int .i64 r3]) ∧ Below W.heap.size W w'):=⟨fun W=>(impl_short.calls _ _ r1 r2 r3 W h3).mono fun e w' ⟨he,hd⟩=>⟨he,by first|exact hd|exact hd.below⟩⟩
       clear H h2 h3
       have hcat:=eq_true (show wd.size + p.p4.size ≤ 9223372036854775807 by have:=pok.2.2.2.2.1;omega)
       have hcat2:=eq_false (show ¬ 9223372036854775807 < wd.size + p.p4.size by have:=pok.2.2.2.2.1;omega)
       go_wp2_with (first|(go_at_call 51;refine (CT.out _).mono ?_;rintro e wA ⟨rfl,hb⟩;have nHV_:=aM (blk_below (HV.out) hb);have nHP_:=aM (blk_below (HP.out) hb);have nHR_:=aM (blk_below (HR.out) hb);have nHO_:=aM (blk_below (HO.out) hb);have nHB_:=aM (HB.out.trans (hb.mono (HB.out.size)));have nHZ_:=aM (Nat.le_trans HZ.out (hb.size));clear hb HV HP HR HO HB HZ;have HV:=nHV_;have HP:=nHP_;have HR:=nHR_;have HO:=nHO_;have HB:=nHB_;have HZ:=nHZ_;clear nHV_ nHP_ nHR_ nHO_ nHB_ nHZ_;have G0:=(blk_cell (yA HP.out (.cells #[.string s1,.string s2] 25)) 0).trans rfl;have G1:=(blk_cell (yA HP.out (.cells #[.string s1,.string s2] 25)) 1).trans rfl;have G2:=(blk_cell (yA HP.out (.cells #[.string s1,.string s2] 25)) 2).trans rfl;have G3:=(blk_cell (yA HP.out (.cells #[.string s1,.string s2] 25)) 3).trans rfl;have G4:=(blk_cell (yA HP.out (.cells #[.string s1,.string s2] 25)) 4).trans rfl;have G5:=(blk_cell (yA HP.out (.cells #[.string s1,.string s2] 25)) 5).trans rfl)|(at_lookup;refine wpList_lookup_own_ok_int _ rfl _ _ 77 rfl 51 3 .i64 law37 u51 u3 (zero3 _) (w.heap.size + 1 + 1 + 1) seen.length D rfl (HM.out _ (yA HO.out _)) _ kl rfl hkl ?_;intro c hat hwc;rw [hhas];clear hat hwc)|(go_at_call 53;refine (CV.out _).mono ?_;rintro e wB ⟨rfl,hb⟩;have nHV_:=aM (blk_below (yA HV.out _) hb);have nHP_:=aM (blk_below (yA HP.out _) hb);have nHR_:=aM (blk_below (yA HR.out _) hb);have nHO_:=aM (blk_below (yA HO.out _) hb);have nHB_:=aM ((HB.out.alloc HB.out.size _).trans (hb.mono (by have:=HB.out.size;simp;omega)));have nHZ_:=aM (Nat.le_trans HZ.out (Nat.le_trans (by simp) hb.size));clear hb HV HP HR HO HB HZ;have HV:=nHV_;have HP:=nHP_;have HR:=nHR_;have HO:=nHO_;have HB:=nHB_;have HZ:=nHZ_;clear nHV_ nHP_ nHR_ nHO_ nHB_ nHZ_;have G0:=(blk_cell HP.out 0).trans rfl;have G1:=(blk_cell HP.out 1).trans rfl;have G2:=(blk_cell HP.out 2).trans rfl;have G3:=(blk_cell HP.out 3).trans rfl;have G4:=(blk_cell HP.out 4).trans rfl;have G5:=(blk_cell HP.out 5).trans rfl;have K0:=(blk_cell HR.out 0).trans rfl;have K1:=(blk_cell HR.out 1).trans rfl;have F0:=blk_frozen HR.out 0;have F1:=blk_frozen HR.out 1))
       have nP:=aM (yD HP.out);have nR:=aM (yD HR.out);have nB:=aM (zD HB.out)
       clear HR HB HV HP HO HM HT HZ
       have HP:=nP
       have HR:=nR
       have HB:=nB
       clear nP nR nB
       refine start_ (n:=16) (S:=fun w'=>w'.cell? ⟨w.heap.size + 1,4,none⟩ = some (.string p.p4) ∧ w'.cell? ⟨w.heap.size + 1,5,none⟩ = some (.string p.p5)) (ds:=[]) #[fF,fF,fF,fF,fF,fF,fF,fF,fF,fF,fF,fF,fF,fF,fF,fF] (by kernel_rfl) rfl rfl ⟨(blk_cell HP.out 4).trans rfl,(blk_cell HP.out 5).trans rfl⟩ (fun hHeld=>?_)
       refine pure_ (i:=0) (N:=some 55) (v:=?_) (a':=?_) #[tT,fF,fF,fF,fF,fF,fF,fF,fF,fF,fF,fF,fF,fF,fF,fF] rfl rfl (by kernel_rfl) (fun _ _ _ h=>h) (Or.inl ⟨by rfl,?_⟩) ?_ ?_
       rotate_left
       ·intro w'
        go_simp
        with_reducible rfl
       rotate_left
       ·simp only [Act.put,sI,sZ,sS,i64_w,i32_w]
        rfl
       refine pure_ (i:=1) (N:=some 56) (v:=?_) (a':=?_) #[tT,tT,fF,fF,fF,fF,fF,fF,fF,fF,fF,fF,fF,fF,fF,fF] rfl rfl (by kernel_rfl) (fun _ _ _ h=>h) (Or.inl ⟨by rfl,?_⟩) ?_ ?_
       rotate_left
       ·intro w'
        go_simp
        with_reducible rfl
       rotate_left
       ·simp only [Act.put,sI,sZ,sS,i64_w,i32_w]
        rfl
       refine pure_ (i:=2) (N:=some 57) (v:=?_) (a':=?_) #[tT,tT,tT,fF,fF,fF,fF,fF,fF,fF,fF,fF,fF,fF,fF,fF] rfl rfl (by kernel_rfl) (fun _ _ _ h=>h) (Or.inl ⟨by rfl,?_⟩) ?_ ?_
       rotate_left
       ·intro w'
        go_simp
        with_reducible rfl
       rotate_left
       ·simp only [Act.put,sI,sZ,sS,i64_w,i32_w]
        rfl
       refine pure_ (i:=3) (N:=some 58) (v:=?_) (a':=?_) #[tT,tT,tT,tT,fF,fF,fF,fF,fF,fF,fF,fF,fF,fF,fF,fF] rfl rfl (by kernel_rfl) (fun _ _ _ h=>h) (Or.inl ⟨by rfl,?_⟩) ?_ ?_
       rotate_left
       ·intro w'
        go_simp
        with_reducible rfl
       rotate_left
       ·simp only [Act.put,sI,sZ,sS,i64_w,i32_w]
        rfl
       refine pure_ (i:=6) (N:=some 61) (v:=?_) (a':=?_) #[tT,tT,tT,tT,fF,fF,tT,fF,fF,fF,fF,fF,fF,fF,fF,fF] rfl rfl (by kernel_rfl) (fun _ _ _ h=>h) (Or.inl ⟨by rfl,?_⟩) ?_ ?_
       rotate_left
       ·intro w'
        go_simp
        with_reducible rfl
       rotate_left
       ·simp only [Act.put,sI,sZ,sS,i64_w,i32_w]
        rfl
       refine pure_ (i:=7) (N:=some 62) (v:=?_) (a':=?_) #[tT,tT,tT,tT,fF,fF,tT,tT,fF,fF,fF,fF,fF,fF,fF,fF] rfl rfl (by kernel_rfl) (fun _ _ _ h=>h) (Or.inl ⟨by rfl,?_⟩) ?_ ?_
       rotate_left
       ·intro w'
        go_simp
        with_reducible rfl
       rotate_left
       ·simp only [Act.put,sI,sZ,sS,i64_w,i32_w]
        rfl
       refine pure_ (i:=8) (N:=some 63) (v:=?_) (a':=?_) #[tT,tT,tT,tT,fF,fF,tT,tT,tT,fF,fF,fF,fF,fF,fF,fF] rfl rfl (by kernel_rfl) (fun _ _ _ h=>h) (Or.inl ⟨by rfl,?_⟩) ?_ ?_
       rotate_left
       ·intro w'
        go_simp
        with_reducible rfl
       rotate_left
       ·simp only [Act.put,sI,sZ,sS,i64_w,i32_w]
        rfl
       refine take_ (i:=4) (N:=some 59) (v:=?_) (a':=?_) #[tT,tT,tT,tT,tT,fF,tT,tT,tT,fF,fF,fF,fF,fF,fF,fF] rfl rfl (by kernel_rfl) (fun _ _ _ h=>h) (Or.inl ⟨by rfl,?_⟩) hHeld ?_ ?_
       rotate_left
       ·rintro w' ⟨s0,s1⟩
        go_simp
        with_reducible rfl
       rotate_left
       ·simp only [Act.put,sI,sZ,sS,i64_w,i32_w]
        rfl
       refine pure_ (i:=5) (N:=some 60) (v:=?_) (a':=?_) #[tT,tT,tT,tT,tT,tT,tT,tT,tT,fF,fF,fF,fF,fF,fF,fF] rfl rfl (by kernel_rfl) (fun _ _ _ h=>h) (Or.inl ⟨by rfl,?_⟩) ?_ ?_
       rotate_left
       ·intro w'
        go_simp
        with_reducible rfl
       rotate_left
       ·simp only [Act.put,sI,sZ,sS,i64_w,i32_w]
        rfl
       refine take_ (i:=9) (N:=some 64) (v:=?_) (a':=?_) #[tT,tT,tT,tT,tT,tT,tT,tT,tT,tT,fF,fF,fF,fF,fF,fF] rfl rfl (by kernel_rfl) (fun _ _ _ h=>h) (Or.inl ⟨by rfl,?_⟩) hHeld ?_ ?_
       rotate_left
       ·rintro w' ⟨s0,s1⟩
        go_simp
        with_reducible rfl
       rotate_left
       ·simp only [Act.put,sI,sZ,sS,i64_w,i32_w]
        rfl
       refine one_ (i:=10) (N:=some 65) #[tT,tT,tT,tT,tT,tT,tT,tT,tT,tT,tT,fF,fF,fF,fF,fF] rfl rfl (by kernel_rfl) (by decide) (fun K hK=>?_)
       refine goes_ Try.func43 (by kernel_rfl) rfl #[.string (wd ++ p.p4),.string p.p5] (by rfl) rfl rfl (by simp only [sM,sC,sN];rfl) ?_
       with_reducible refine (CS.out _).mono ?_
       rintro e wC ⟨rfl,hb⟩
       refine ⟨_,rfl,?_⟩
       have nHP_:=aM (blk_below (HP.out) hb);have nHR_:=aM (blk_below (HR.out) hb);have nHB_:=aM (HB.out.trans (hb.mono (HB.out.size)))
       clear hb HP HR HB
       have HP:=nHP_
       have HR:=nHR_
       have HB:=nHB_
       clear nHP_ nHR_ nHB_
       refine hK.out _ _ ⟨(blk_cell HP.out 4).trans rfl,(blk_cell HP.out 5).trans rfl⟩ (fun hHeld=>?_)
       clear hK K
       refine norm_ (a':=_) (by show Act.put _ _ _=_;simp only [Act.put,sI,sZ,sS,i64_w,i32_w];rfl) ?_
       refine one_ (i:=11) (N:=some 66) #[tT,tT,tT,tT,tT,tT,tT,tT,tT,tT,tT,tT,fF,fF,fF,fF] rfl rfl (by kernel_rfl) (by decide) (fun K hK=>?_)
       refine goes_ Try.func52 (by kernel_rfl) rfl #[.agg #[.string q1,.string q2]] (by rfl) rfl rfl (by simp only [sM,sC,sN];rfl) ?_
       with_reducible refine (CH.out _).mono ?_
       rintro e wD ⟨rfl,hb⟩
       refine ⟨_,rfl,?_⟩
       have nHP_:=aM (blk_below (HP.out) hb);have nHR_:=aM (blk_below (HR.out) hb);have nHB_:=aM (HB.out.trans (hb.mono (HB.out.size)))
       clear hb HP HR HB
       have HP:=nHP_
       have HR:=nHR_
       have HB:=nHB_
       clear nHP_ nHR_ nHB_
       have K0:=(blk_cell HR.out 0).trans rfl
       have K1:=(blk_cell HR.out 1).trans rfl
       have F0:=blk_frozen HR.out 0
       have F1:=blk_frozen HR.out 1
       refine hK.out _ _ ⟨(blk_cell HP.out 4).trans rfl,(blk_cell HP.out 5).trans rfl⟩ (fun hHeld=>?_)
       clear hK K
       refine norm_ (a':=_) (by show Act.put _ _ _=_;simp only [Act.put,sI,sZ,sS,i64_w,i32_w];rfl) ?_
       refine pure_ (i:=12) (N:=some 67) (v:=?_) (a':=?_) #[tT,tT,tT,tT,tT,tT,tT,tT,tT,tT,tT,tT,tT,fF,fF,fF] rfl rfl (by kernel_rfl) (fun _ _ _ h=>h) (Or.inl ⟨by rfl,?_⟩) ?_ ?_
       rotate_left
       ·intro w'
        go_simp
        with_reducible rfl
       rotate_left
       ·simp only [Act.put,sI,sZ,sS,i64_w,i32_w]
        rfl
       refine pure_ (i:=13) (N:=some 68) (v:=?_) (a':=?_) #[tT,tT,tT,tT,tT,tT,tT,tT,tT,tT,tT,tT,tT,tT,fF,fF] rfl rfl (by kernel_rfl) (fun _ _ _ h=>h) (Or.inl ⟨by rfl,?_⟩) ?_ ?_
       rotate_left
       ·intro w'
        go_simp
        with_reducible rfl
       rotate_left
       ·simp only [Act.put,sI,sZ,sS,i64_w,i32_w]
        rfl
       refine one_ (i:=14) (N:=none) #[tT,tT,tT,tT,tT,tT,tT,tT,tT,tT,tT,tT,tT,tT,tT,fF] rfl rfl (by kernel_rfl) (by decide) (fun K hK=>?_)
       refine skip_ (w1:=?_) (by rfl) rfl ?_ ?_
       rotate_left
       ·go_simp
        rfl
       refine hK.out _ _ ⟨(blk_cell (blk_far (blk_far HP.out (by first|(simp;done)|(simp;omega)) _) (by first|(simp;done)|(simp;omega)) _) 4).trans rfl,(blk_cell (blk_far (blk_far HP.out (by first|(simp;done)|(simp;omega)) _) (by first|(simp;done)|(simp;omega)) _) 5).trans rfl⟩ (fun hHeld=>?_)
       clear hK K
       refine pure_ (i:=15) (N:=some 5) (v:=?_) (a':=?_) #[tT,tT,tT,tT,tT,tT,tT,tT,tT,tT,tT,tT,tT,tT,tT,tT] rfl rfl (by kernel_rfl) (fun _ _ _ h=>h) (Or.inl ⟨by rfl,?_⟩) ?_ ?_
       rotate_left
       ·intro w'
        go_simp
        with_reducible rfl
       rotate_left
       ·simp only [Act.put,sI,sZ,sS,i64_w,i32_w]
        rfl
       refine done_ (by kernel_rfl) ?_
       try go_wp2
       refine bodyPost_ret (results_ct rfl _ _ (w.heap.size + 1 + 1) 25 #[.string r1,.string r2] (0,0) _ rfl (by first|exact blk_put (cs:=#[.string r1,.string ⟨#[]⟩]) (blk_put (cs:=#[.string ⟨#[]⟩,.string ⟨#[]⟩]) HR.out 0 _ rfl) 1 _ rfl) Try.underlying25 rfl (by kernel_rfl)) rfl ?_
       exact ⟨rfl,zS (zS HB.out (by omega)) (by omega)⟩
     ·rw [if_neg hst] at H
      have hs1:=eq_false hst
      have hs2:decide (0 ≤ st) = false:=decide_eq_false hst
      by_cases hL:wd.size = 600
      ·rw [if_pos hL] at H
       simp only [Option.some.injEq,Prod.mk.injEq] at H
       obtain ⟨rfl,rfl,rfl⟩:=H
       have hl1:((wd.size:Int) == 600) = true:=beq_iff_eq.mpr (by omega)
       go_wp2_with (first|(go_at_call 51;refine (CT.out _).mono ?_;rintro e wA ⟨rfl,hb⟩;have nHV_:=aM (blk_below (HV.out) hb);have nHP_:=aM (blk_below (HP.out) hb);have nHR_:=aM (blk_below (HR.out) hb);have nHO_:=aM (blk_below (HO.out) hb);have nHB_:=aM (HB.out.trans (hb.mono (HB.out.size)));have nHZ_:=aM (Nat.le_trans HZ.out (hb.size));clear hb HV HP HR HO HB HZ;have HV:=nHV_;have HP:=nHP_;have HR:=nHR_;have HO:=nHO_;have HB:=nHB_;have HZ:=nHZ_;clear nHV_ nHP_ nHR_ nHO_ nHB_ nHZ_;have G0:=(blk_cell (yA HP.out (.cells #[.string s1,.string s2] 25)) 0).trans rfl;have G1:=(blk_cell (yA HP.out (.cells #[.string s1,.string s2] 25)) 1).trans rfl;have G2:=(blk_cell (yA HP.out (.cells #[.string s1,.string s2] 25)) 2).trans rfl;have G3:=(blk_cell (yA HP.out (.cells #[.string s1,.string s2] 25)) 3).trans rfl;have G4:=(blk_cell (yA HP.out (.cells #[.string s1,.string s2] 25)) 4).trans rfl;have G5:=(blk_cell (yA HP.out (.cells #[.string s1,.string s2] 25)) 5).trans rfl)|(at_lookup;refine wpList_lookup_own_ok_int _ rfl _ _ 77 rfl 51 3 .i64 law37 u51 u3 (zero3 _) (w.heap.size + 1 + 1 + 1) seen.length D rfl (HM.out _ (yA HO.out _)) _ kl rfl hkl ?_;intro c hat hwc;rw [hhas];clear hat hwc)|(go_at_call 53;refine (CV.out _).mono ?_;rintro e wB ⟨rfl,hb⟩;have nHV_:=aM (blk_below (yA HV.out _) hb);have nHP_:=aM (blk_below (yA HP.out _) hb);have nHR_:=aM (blk_below (yA HR.out _) hb);have nHO_:=aM (blk_below (yA HO.out _) hb);have nHB_:=aM ((HB.out.alloc HB.out.size _).trans (hb.mono (by have:=HB.out.size;simp;omega)));have nHZ_:=aM (Nat.le_trans HZ.out (Nat.le_trans (by simp) hb.size));clear hb HV HP HR HO HB HZ;have HV:=nHV_;have HP:=nHP_;have HR:=nHR_;have HO:=nHO_;have HB:=nHB_;have HZ:=nHZ_;clear nHV_ nHP_ nHR_ nHO_ nHB_ nHZ_;have G0:=(blk_cell HP.out 0).trans rfl;have G1:=(blk_cell HP.out 1).trans rfl;have G2:=(blk_cell HP.out 2).trans rfl;have G3:=(blk_cell HP.out 3).trans rfl;have G4:=(blk_cell HP.out 4).trans rfl;have G5:=(blk_cell HP.out 5).trans rfl;have K0:=(blk_cell HR.out 0).trans rfl;have K1:=(blk_cell HR.out 1).trans rfl;have F0:=blk_frozen HR.out 0;have F1:=blk_frozen HR.out 1))
       refine bodyPost_ret (results_ct rfl _ _ (w.heap.size + 1 + 1) 25 #[.string ⟨#[]⟩,.string ⟨#[]⟩] (0,0) _ rfl (by first|exact blk_put (cs:=#[.string ⟨#[]⟩,.string ⟨#[]⟩]) (blk_put (cs:=#[.string ⟨#[]⟩,.string ⟨#[]⟩]) HR.out 0 _ rfl) 1 _ rfl) Try.underlying25 rfl (by kernel_rfl)) rfl ?_
       exact ⟨rfl,zS (zS HB.out (by omega)) (by omega)⟩
      ·rw [if_neg hL] at H
       by_cases hlt:lt = 48 ∨ lt = 49
       case neg=>rw [if_neg hlt] at H;cases H
       rw [if_pos hlt] at H
       obtain ⟨⟨y0,y1,y2,y3,y4,y5⟩,h5,H⟩:=Option.bind_eq_some_iff.1 H
       have HN:=aM (show impl_Sequence_middle.l a0_0 a0_1 gk ⟨y0,y1,y2,y3,y4,y5⟩ (wd ++ Utf8.encode lt) (seen ++ [p]) = some (r1,r2,r3) from H)
       clear H
       have CM:Aside0 (∀ W,Calls Try.prog 54 #[.agg #[.string a0_0,.string a0_1],.agg #[.string p.p0,.string p.p1,.string p.p2,.string p.p3,.string p.p4,.string p.p5],.int .u8 lt] W fun e w'=>e = .returned (.agg #[.string y0,.string y1,.string y2,.string y3,.string y4,.string y5]) ∧ Below W.heap.size W w'):=⟨fun W=>impl_Sequence_moved.calls _ _ _ _ _ _ _ _ _ _ _ _ _ _ _ W h5⟩
       clear h5
       have hl1:((wd.size:Int) == 600) = false:=beq_eq_false_iff_ne.mpr (by omega)
       have hue:(Utf8.encode lt).size = 1:=by rcases hlt with rfl|rfl <;> rfl
       have hcat:=eq_true (show wd.size + (Utf8.encode lt).size ≤ 9223372036854775807 by omega)
       have hcat2:=eq_false (show ¬ 9223372036854775807 < wd.size + (Utf8.encode lt).size by omega)
       have hwf:(Lit.int .i64 (wd.size:Int)).wf = true:=WalkArith.wf_i64 (by omega)
       go_wp2_with (first|(go_at_call 51;refine (CT.out _).mono ?_;rintro e wA ⟨rfl,hb⟩;have nHV_:=aM (blk_below (HV.out) hb);have nHP_:=aM (blk_below (HP.out) hb);have nHR_:=aM (blk_below (HR.out) hb);have nHO_:=aM (blk_below (HO.out) hb);have nHB_:=aM (HB.out.trans (hb.mono (HB.out.size)));have nHZ_:=aM (Nat.le_trans HZ.out (hb.size));clear hb HV HP HR HO HB HZ;have HV:=nHV_;have HP:=nHP_;have HR:=nHR_;have HO:=nHO_;have HB:=nHB_;have HZ:=nHZ_;clear nHV_ nHP_ nHR_ nHO_ nHB_ nHZ_;have G0:=(blk_cell (yA HP.out (.cells #[.string s1,.string s2] 25)) 0).trans rfl;have G1:=(blk_cell (yA HP.out (.cells #[.string s1,.string s2] 25)) 1).trans rfl;have G2:=(blk_cell (yA HP.out (.cells #[.string s1,.string s2] 25)) 2).trans rfl;have G3:=(blk_cell (yA HP.out (.cells #[.string s1,.string s2] 25)) 3).trans rfl;have G4:=(blk_cell (yA HP.out (.cells #[.string s1,.string s2] 25)) 4).trans rfl;have G5:=(blk_cell (yA HP.out (.cells #[.string s1,.string s2] 25)) 5).trans rfl)|(at_lookup;refine wpList_lookup_own_ok_int _ rfl _ _ 77 rfl 51 3 .i64 law37 u51 u3 (zero3 _) (w.heap.size + 1 + 1 + 1) seen.length D rfl (HM.out _ (yA HO.out _)) _ kl rfl hkl ?_;intro c hat hwc;rw [hhas];clear hat hwc)|(go_at_call 53;refine (CV.out _).mono ?_;rintro e wB ⟨rfl,hb⟩;have nHV_:=aM (blk_below (yA HV.out _) hb);have nHP_:=aM (blk_below (yA HP.out _) hb);have nHR_:=aM (blk_below (yA HR.out _) hb);have nHO_:=aM (blk_below (yA HO.out _) hb);have nHB_:=aM ((HB.out.alloc HB.out.size _).trans (hb.mono (by have:=HB.out.size;simp;omega)));have nHZ_:=aM (Nat.le_trans HZ.out (Nat.le_trans (by simp) hb.size));clear hb HV HP HR HO HB HZ;have HV:=nHV_;have HP:=nHP_;have HR:=nHR_;have HO:=nHO_;have HB:=nHB_;have HZ:=nHZ_;clear nHV_ nHP_ nHR_ nHO_ nHB_ nHZ_;have G0:=(blk_cell HP.out 0).trans rfl;have G1:=(blk_cell HP.out 1).trans rfl;have G2:=(blk_cell HP.out 2).trans rfl;have G3:=(blk_cell HP.out 3).trans rfl;have G4:=(blk_cell HP.out 4).trans rfl;have G5:=(blk_cell HP.out 5).trans rfl;have K0:=(blk_cell HR.out 0).trans rfl;have K1:=(blk_cell HR.out 1).trans rfl;have F0:=blk_frozen HR.out 0;have F1:=blk_frozen HR.out 1)|(at_mapUpdate;refine wpList_mapUpdate_own _ rfl _ _ _ 77 rfl 51 3 law37 u51 _ (w.heap.size + 1 + 1 + 1) seen.length D rfl (HM.out _ HO.out) (by unfold maxLen;omega) _ _ kl rfl rfl hkl _ [] (plainElem_int u3 hwf) ?_;intro wD hown hgr;obtain ⟨o2,ho1,ho2⟩:=ownsMap_at hown;have HO2:=aM ho2;have nV:=aM (blk_grown HV.out hgr (by first|(simp;done)|(simp;omega)));have nP:=aM (blk_grown HP.out hgr (by first|(simp;done)|(simp;omega)));have nR:=aM (blk_grown HR.out hgr (by first|(simp;done)|(simp;omega)));have nO:=aM ho1;have nB:=aM (HB.out.grown hgr HB.out.size (by intro k hk;cases hk;omega));have nZ:=aM (Nat.le_trans HZ.out hgr.size);clear HV HP HR HO HB HZ hown hgr ho1 ho2;have HV:=nV;have HP:=nP;have HR:=nR;have HO:=nO;have HB:=nB;have HZ:=nZ;clear nV nP nR nO nB nZ;have G0:=(blk_cell HP.out 0).trans rfl;have G1:=(blk_cell HP.out 1).trans rfl;have G2:=(blk_cell HP.out 2).trans rfl;have G3:=(blk_cell HP.out 3).trans rfl;have G4:=(blk_cell HP.out 4).trans rfl;have G5:=(blk_cell HP.out 5).trans rfl;have A0:=(blk_cell HV.out 0).trans rfl;have A1:=(blk_cell HV.out 1).trans rfl)|(go_at_call 54;refine (CM.out _).mono ?_;rintro e wE ⟨rfl,hb⟩;have nHV_:=aM (blk_below (HV.out) hb);have nHP_:=aM (blk_below (HP.out) hb);have nHR_:=aM (blk_below (HR.out) hb);have nHO_:=aM (blk_below (HO.out) hb);have nHB_:=aM (HB.out.trans (hb.mono (HB.out.size)));have nHZ_:=aM (Nat.le_trans HZ.out (hb.size));clear hb HV HP HR HO HB HZ;have HV:=nHV_;have HP:=nHP_;have HR:=nHR_;have HO:=nHO_;have HB:=nHB_;have HZ:=nHZ_;clear nHV_ nHP_ nHR_ nHO_ nHB_ nHZ_;have G0:=(blk_cell HP.out 0).trans rfl;have G1:=(blk_cell HP.out 1).trans rfl;have G2:=(blk_cell HP.out 2).trans rfl;have G3:=(blk_cell HP.out 3).trans rfl;have G4:=(blk_cell HP.out 4).trans rfl;have G5:=(blk_cell HP.out 5).trans rfl;have E0:=blk_frozen HP.out 0;have E1:=blk_frozen HP.out 1;have E2:=blk_frozen HP.out 2;have E3:=blk_frozen HP.out 3;have E4:=blk_frozen HP.out 4;have E5:=blk_frozen HP.out 5))
       go_roundg gk
       case measure=>omega
       case rel =>
        exact ⟨⟨y0,y1,y2,y3,y4,y5⟩,wd ++ Utf8.encode lt,seen ++ [p],D.put kl (.lit (.int .i64 (wd.size:Int))),_,rfl,HN,⟨obj_far (obj_far (obj_far (obj_far (obj_far (obj_far HV.out (by first|(simp;done)|(simp;omega)) _) (by first|(simp;done)|(simp;omega)) _) (by first|(simp;done)|(simp;omega)) _) (by first|(simp;done)|(simp;omega)) _) (by first|(simp;done)|(simp;omega)) _) (by first|(simp;done)|(simp;omega)) _⟩,⟨blk_put (cs:=#[.string y0,.string y1,.string y2,.string y3,.string y4,.string p.p5]) (blk_put (cs:=#[.string y0,.string y1,.string y2,.string y3,.string p.p4,.string p.p5]) (blk_put (cs:=#[.string y0,.string y1,.string y2,.string p.p3,.string p.p4,.string p.p5]) (blk_put (cs:=#[.string y0,.string y1,.string p.p2,.string p.p3,.string p.p4,.string p.p5]) (blk_put (cs:=#[.string y0,.string p.p1,.string p.p2,.string p.p3,.string p.p4,.string p.p5]) (blk_put (cs:=#[.string p.p0,.string p.p1,.string p.p2,.string p.p3,.string p.p4,.string p.p5]) (HP.out) 0 _ rfl) 1 _ rfl) 2 _ rfl) 3 _ rfl) 4 _ rfl) 5 _ rfl⟩,⟨obj_far (obj_far (obj_far (obj_far (obj_far (obj_far HR.out (by first|(simp;done)|(simp;omega)) _) (by first|(simp;done)|(simp;omega)) _) (by first|(simp;done)|(simp;omega)) _) (by first|(simp;done)|(simp;omega)) _) (by first|(simp;done)|(simp;omega)) _) (by first|(simp;done)|(simp;omega)) _⟩,⟨obj_far (obj_far (obj_far (obj_far (obj_far (obj_far HO.out (by first|(simp;done)|(simp;omega)) _) (by first|(simp;done)|(simp;omega)) _) (by first|(simp;done)|(simp;omega)) _) (by first|(simp;done)|(simp;omega)) _) (by first|(simp;done)|(simp;omega)) _) (by first|(simp;done)|(simp;omega)) _⟩,⟨fun W hW=>by rw [List.length_append];exact HO2.out W _ hW⟩,⟨HT.out.1.put _ _,hsl ▸ (HT.out.2.snoc HT.out.1 hkl hi)⟩,⟨zS (zS (zS (zS (zS (zS (HB.out) (by omega)) (by omega)) (by omega)) (by omega)) (by omega)) (by omega)⟩,⟨by have:=HZ.out;simpa [World.setCell] using this⟩⟩
end
section
def lettersEnd (s:Int × Int × Int):Int × Int:=if s.1 = 1 ∧ s.2.1 = 1 then (0,s.2.2) else if s.1 > s.2.1 then (48,-1) else (49,-1)
def spec_l06Letters.f (a0_0 a0_1 a0_2 a0_3 a0_4 a0_5:ByteArray):Option (Int × Int) :=
 (spec_l01At.f a0_0 a0_1 0).bind fun x0=>(spec_l01At.f a0_2 a0_3 0).bind fun x1=>(spec_l01At.f a0_4 a0_5 0).bind fun x2=>some (lettersEnd (voteAt x0 x1 x2 3))
set_option maxHeartbeats 4000000 in
set_option maxRecDepth 100000 in
theorem spec_l06Letters.calls (a0_0 a0_1 a0_2 a0_3 a0_4 a0_5:ByteArray) (r1 r2:Int) (w:World) (h:spec_l06Letters.f a0_0 a0_1 a0_2 a0_3 a0_4 a0_5 = some (r1,r2)) :
  Calls Try.prog 57 #[.agg #[.string a0_0,.string a0_1,.string a0_2,.string a0_3,.string a0_4,.string a0_5]] w fun e w'=>e = .returned (.tuple #[.int .u8 r1,.int .i64 r2]) ∧ Below w.heap.size w w':=by
 unfold spec_l06Letters.f at h
 obtain ⟨x0,h0,h⟩:=Option.bind_eq_some_iff.1 h
 obtain ⟨x1,h1,h⟩:=Option.bind_eq_some_iff.1 h
 obtain ⟨x2,h2,h⟩:=Option.bind_eq_some_iff.1 h
 have c0:∀ W,Calls Try.prog 49 #[.agg #[.string a0_0,.string a0_1],.int .i64 0] W fun e w'=>e = .returned (.int .u8 x0) ∧ Below W.heap.size W w':=fun W=>(spec_l01At.calls _ _ _ x0 W h0).mono fun e w' ⟨he,hd⟩=>⟨he,by first|exact hd|exact hd.below⟩
 have c1:∀ W,Calls Try.prog 49 #[.agg #[.string a0_2,.string a0_3],.int .i64 0] W fun e w'=>e = .returned (.int .u8 x1) ∧ Below W.heap.size W w':=fun W=>(spec_l01At.calls _ _ _ x1 W h1).mono fun e w' ⟨he,hd⟩=>⟨he,by first|exact hd|exact hd.below⟩
 have c2:∀ W,Calls Try.prog 49 #[.agg #[.string a0_4,.string a0_5],.int .i64 0] W fun e w'=>e = .returned (.int .u8 x2) ∧ Below W.heap.size W w':=fun W=>(spec_l01At.calls _ _ _ x2 W h2).mono fun e w' ⟨he,hd⟩=>⟨he,by first|exact hd|exact hd.below⟩
 have C0:=aM c0;have C1:=aM c1;have C2:=aM c2;have HE:=aM (Option.some.inj h)
 clear c0 c1 c2 h h0 h1 h2
 have hu27:=Try.underlying25
 have hu36:=Try.underlying50
 have hu58:=Try.underlying98
 go_enter Try.func57,Try.ntmps57
 go_wp2
 go_loopg [5,6] 3 (fun gg v5 v6 wr=>∃ (i z o s:Int),(i = 0 ∨ i = 1 ∨ i = 2 ∨ i = 3) ∧ 3 - i.toNat ≤ gg ∧ v5 = .int .i64 s ∧ v6 = .int .i64 i ∧ (0 ≤ z ∧ z ≤ i ∧ 0 ≤ o ∧ o ≤ i) ∧ Aside0 (wr.heap[w.heap.size]? = some (.cells #[.string a0_0,.string a0_1,.string a0_2,.string a0_3,.string a0_4,.string a0_5] 50 (0,0))) ∧ Aside0 (wr.heap[w.heap.size + 1]? = some (.cells #[.int .i64 z,.int .i64 o] 98 (0,0))) ∧ Aside0 (voteAt x0 x1 x2 i = (z,o,s)) ∧ Aside0 (Below w.heap.size w wr) ∧ Aside0 (w.heap.size + 2 ≤ wr.heap.size))
 case atStart =>
  have s1:(w.alloc (.cells #[.string a0_0,.string a0_1,.string a0_2,.string a0_3,.string a0_4,.string a0_5] 50)).heap.size = w.heap.size + 1:=by simp
  exact ⟨0,0,0,-1,.inl rfl,by decide,rfl,rfl,by decide,⟨yA (blk_new _ _) _⟩,⟨s1 ▸ blk_new _ _⟩,⟨rfl⟩,⟨zA (zA (Below.refl _ _) _) _⟩,⟨by simp⟩⟩
 case round =>
  obtain ⟨i,z,o,s,hi,hg,rfl,rfl,hz,HP,HC,HV,HB,HZ⟩:=hrel
  have wz:wrap64 (z + 1) = z + 1:=by unfold wrap64;omega
  have wo:wrap64 (o + 1) = o + 1:=by unfold wrap64;omega
  rcases hi with rfl|rfl|rfl|rfl
  ·have G0:=(blk_cell HP.out 0).trans rfl
   have G1:=(blk_cell HP.out 1).trans rfl
   by_cases d1:x0 = 48
   ·have b1:(x0 == 48) = true:=beq_iff_eq.mpr d1
    go_wp2_with (go_at_call 49;refine (C0.out _).mono ?_;rintro e wA ⟨rfl,hb⟩;have nP:=aM (blk_below HP.out hb);have nC:=aM (blk_below HC.out hb);have nB:=aM (HB.out.trans (hb.mono HB.out.size));have nZ:=aM (Nat.le_trans HZ.out hb.size);clear hb HP HC HB HZ;have HP:=nP;have HC:=nC;have HB:=nB;have HZ:=nZ;clear nP nC nB nZ;have K0:=(blk_cell HC.out 0).trans rfl;have K1:=(blk_cell HC.out 1).trans rfl;have F0:=blk_frozen HC.out 0;have F1:=blk_frozen HC.out 1)
    all_goals
     go_roundg 2
     case measure=>omega
     case rel=>exact ⟨1,z + 1,o,s,.inr (.inl rfl),by decide,rfl,rfl,by omega,⟨blk_far HP.out (by simp) _⟩,⟨blk_put (cs:=#[.int .i64 z,.int .i64 o]) HC.out 0 _ (by first|rfl|(simp [wz];done)|(simp [wrap64] at *;omega))⟩,⟨by have e:=HV.out;show voteStep 0 x0 (voteAt x0 x1 x2 0) = _;rw [e];simp [voteStep,d1]⟩,⟨zS HB.out (by omega)⟩,⟨by have:=HZ.out;first|exact this|simpa [World.setCell] using this⟩⟩
   ·have b1:(x0 == 48) = false:=beq_eq_false_iff_ne.mpr d1
    by_cases d2:x0 = 49
    ·have b2:(x0 == 49) = true:=beq_iff_eq.mpr d2
     go_wp2_with (go_at_call 49;refine (C0.out _).mono ?_;rintro e wA ⟨rfl,hb⟩;have nP:=aM (blk_below HP.out hb);have nC:=aM (blk_below HC.out hb);have nB:=aM (HB.out.trans (hb.mono HB.out.size));have nZ:=aM (Nat.le_trans HZ.out hb.size);clear hb HP HC HB HZ;have HP:=nP;have HC:=nC;have HB:=nB;have HZ:=nZ;clear nP nC nB nZ;have K0:=(blk_cell HC.out 0).trans rfl;have K1:=(blk_cell HC.out 1).trans rfl;have F0:=blk_frozen HC.out 0;have F1:=blk_frozen HC.out 1)
     all_goals
      go_roundg 2
      case measure=>omega
      case rel=>exact ⟨1,z,o + 1,s,.inr (.inl rfl),by decide,rfl,rfl,by omega,⟨blk_far HP.out (by simp) _⟩,⟨blk_put (cs:=#[.int .i64 z,.int .i64 o]) HC.out 1 _ (by first|rfl|(simp [wo];done))⟩,⟨by have e:=HV.out;show voteStep 0 x0 (voteAt x0 x1 x2 0) = _;rw [e];simp [voteStep,d1,d2]⟩,⟨zS HB.out (by omega)⟩,⟨by have:=HZ.out;first|exact this|simpa [World.setCell] using this⟩⟩
    ·have b2:(x0 == 49) = false:=beq_eq_false_iff_ne.mpr d2
     go_wp2_with (go_at_call 49;refine (C0.out _).mono ?_;rintro e wA ⟨rfl,hb⟩;have nP:=aM (blk_below HP.out hb);have nC:=aM (blk_below HC.out hb);have nB:=aM (HB.out.trans (hb.mono HB.out.size));have nZ:=aM (Nat.le_trans HZ.out hb.size);clear hb HP HC HB HZ;have HP:=nP;have HC:=nC;have HB:=nB;have HZ:=nZ;clear nP nC nB nZ;have K0:=(blk_cell HC.out 0).trans rfl;have K1:=(blk_cell HC.out 1).trans rfl;have F0:=blk_frozen HC.out 0;have F1:=blk_frozen HC.out 1)
     all_goals
      go_roundg 2
      case measure=>omega
      case rel=>exact ⟨1,z,o,0,.inr (.inl rfl),by decide,rfl,rfl,by omega,⟨HP.out⟩,⟨HC.out⟩,⟨by have e:=HV.out;show voteStep 0 x0 (voteAt x0 x1 x2 0) = _;rw [e];simp [voteStep,d1,d2]⟩,⟨HB.out⟩,⟨by have:=HZ.out;first|exact this|simpa [World.setCell] using this⟩⟩
  ·have G0:=(blk_cell HP.out 2).trans rfl
   have G1:=(blk_cell HP.out 3).trans rfl
   by_cases d1:x1 = 48
   ·have b1:(x1 == 48) = true:=beq_iff_eq.mpr d1
    go_wp2_with (go_at_call 49;refine (C1.out _).mono ?_;rintro e wA ⟨rfl,hb⟩;have nP:=aM (blk_below HP.out hb);have nC:=aM (blk_below HC.out hb);have nB:=aM (HB.out.trans (hb.mono HB.out.size));have nZ:=aM (Nat.le_trans HZ.out hb.size);clear hb HP HC HB HZ;have HP:=nP;have HC:=nC;have HB:=nB;have HZ:=nZ;clear nP nC nB nZ;have K0:=(blk_cell HC.out 0).trans rfl;have K1:=(blk_cell HC.out 1).trans rfl;have F0:=blk_frozen HC.out 0;have F1:=blk_frozen HC.out 1)
    all_goals
     go_roundg 1
     case measure=>omega
     case rel=>exact ⟨2,z + 1,o,s,.inr (.inr (.inl rfl)),by decide,rfl,rfl,by omega,⟨blk_far HP.out (by simp) _⟩,⟨blk_put (cs:=#[.int .i64 z,.int .i64 o]) HC.out 0 _ (by first|rfl|(simp [wz];done)|(simp [wrap64] at *;omega))⟩,⟨by have e:=HV.out;show voteStep 1 x1 (voteAt x0 x1 x2 1) = _;rw [e];simp [voteStep,d1]⟩,⟨zS HB.out (by omega)⟩,⟨by have:=HZ.out;first|exact this|simpa [World.setCell] using this⟩⟩
   ·have b1:(x1 == 48) = false:=beq_eq_false_iff_ne.mpr d1
    by_cases d2:x1 = 49
    ·have b2:(x1 == 49) = true:=beq_iff_eq.mpr d2
     go_wp2_with (go_at_call 49;refine (C1.out _).mono ?_;rintro e wA ⟨rfl,hb⟩;have nP:=aM (blk_below HP.out hb);have nC:=aM (blk_below HC.out hb);have nB:=aM (HB.out.trans (hb.mono HB.out.size));have nZ:=aM (Nat.le_trans HZ.out hb.size);clear hb HP HC HB HZ;have HP:=nP;have HC:=nC;have HB:=nB;have HZ:=nZ;clear nP nC nB nZ;have K0:=(blk_cell HC.out 0).trans rfl;have K1:=(blk_cell HC.out 1).trans rfl;have F0:=blk_frozen HC.out 0;have F1:=blk_frozen HC.out 1)
     all_goals
      go_roundg 1
      case measure=>omega
      case rel=>exact ⟨2,z,o + 1,s,.inr (.inr (.inl rfl)),by decide,rfl,rfl,by omega,⟨blk_far HP.out (by simp) _⟩,⟨blk_put (cs:=#[.int .i64 z,.int .i64 o]) HC.out 1 _ (by first|rfl|(simp [wo];done))⟩,⟨by have e:=HV.out;show voteStep 1 x1 (voteAt x0 x1 x2 1) = _;rw [e];simp [voteStep,d1,d2]⟩,⟨zS HB.out (by omega)⟩,⟨by have:=HZ.out;first|exact this|simpa [World.setCell] using this⟩⟩
    ·have b2:(x1 == 49) = false:=beq_eq_false_iff_ne.mpr d2
     go_wp2_with (go_at_call 49;refine (C1.out _).mono ?_;rintro e wA ⟨rfl,hb⟩;have nP:=aM (blk_below HP.out hb);have nC:=aM (blk_below HC.out hb);have nB:=aM (HB.out.trans (hb.mono HB.out.size));have nZ:=aM (Nat.le_trans HZ.out hb.size);clear hb HP HC HB HZ;have HP:=nP;have HC:=nC;have HB:=nB;have HZ:=nZ;clear nP nC nB nZ;have K0:=(blk_cell HC.out 0).trans rfl;have K1:=(blk_cell HC.out 1).trans rfl;have F0:=blk_frozen HC.out 0;have F1:=blk_frozen HC.out 1)
     all_goals
      go_roundg 1
      case measure=>omega
      case rel=>exact ⟨2,z,o,1,.inr (.inr (.inl rfl)),by decide,rfl,rfl,by omega,⟨HP.out⟩,⟨HC.out⟩,⟨by have e:=HV.out;show voteStep 1 x1 (voteAt x0 x1 x2 1) = _;rw [e];simp [voteStep,d1,d2]⟩,⟨HB.out⟩,⟨by have:=HZ.out;first|exact this|simpa [World.setCell] using this⟩⟩
  ·have G0:=(blk_cell HP.out 4).trans rfl
   have G1:=(blk_cell HP.out 5).trans rfl
   by_cases d1:x2 = 48
   ·have b1:(x2 == 48) = true:=beq_iff_eq.mpr d1
    go_wp2_with (go_at_call 49;refine (C2.out _).mono ?_;rintro e wA ⟨rfl,hb⟩;have nP:=aM (blk_below HP.out hb);have nC:=aM (blk_below HC.out hb);have nB:=aM (HB.out.trans (hb.mono HB.out.size));have nZ:=aM (Nat.le_trans HZ.out hb.size);clear hb HP HC HB HZ;have HP:=nP;have HC:=nC;have HB:=nB;have HZ:=nZ;clear nP nC nB nZ;have K0:=(blk_cell HC.out 0).trans rfl;have K1:=(blk_cell HC.out 1).trans rfl;have F0:=blk_frozen HC.out 0;have F1:=blk_frozen HC.out 1)
    all_goals
     go_roundg 0
     case measure=>omega
     case rel=>exact ⟨3,z + 1,o,s,.inr (.inr (.inr rfl)),by decide,rfl,rfl,by omega,⟨blk_far HP.out (by simp) _⟩,⟨blk_put (cs:=#[.int .i64 z,.int .i64 o]) HC.out 0 _ (by first|rfl|(simp [wz];done)|(simp [wrap64] at *;omega))⟩,⟨by have e:=HV.out;show voteStep 2 x2 (voteAt x0 x1 x2 2) = _;rw [e];simp [voteStep,d1]⟩,⟨zS HB.out (by omega)⟩,⟨by have:=HZ.out;first|exact this|simpa [World.setCell] using this⟩⟩
   ·have b1:(x2 == 48) = false:=beq_eq_false_iff_ne.mpr d1
    by_cases d2:x2 = 49
    ·have b2:(x2 == 49) = true:=beq_iff_eq.mpr d2
     go_wp2_with (go_at_call 49;refine (C2.out _).mono ?_;rintro e wA ⟨rfl,hb⟩;have nP:=aM (blk_below HP.out hb);have nC:=aM (blk_below HC.out hb);have nB:=aM (HB.out.trans (hb.mono HB.out.size));have nZ:=aM (Nat.le_trans HZ.out hb.size);clear hb HP HC HB HZ;have HP:=nP;have HC:=nC;have HB:=nB;have HZ:=nZ;clear nP nC nB nZ;have K0:=(blk_cell HC.out 0).trans rfl;have K1:=(blk_cell HC.out 1).trans rfl;have F0:=blk_frozen HC.out 0;have F1:=blk_frozen HC.out 1)
     all_goals
      go_roundg 0
      case measure=>omega
      case rel=>exact ⟨3,z,o + 1,s,.inr (.inr (.inr rfl)),by decide,rfl,rfl,by omega,⟨blk_far HP.out (by simp) _⟩,⟨blk_put (cs:=#[.int .i64 z,.int .i64 o]) HC.out 1 _ (by first|rfl|(simp [wo];done))⟩,⟨by have e:=HV.out;show voteStep 2 x2 (voteAt x0 x1 x2 2) = _;rw [e];simp [voteStep,d1,d2]⟩,⟨zS HB.out (by omega)⟩,⟨by have:=HZ.out;first|exact this|simpa [World.setCell] using this⟩⟩
    ·have b2:(x2 == 49) = false:=beq_eq_false_iff_ne.mpr d2
     go_wp2_with (go_at_call 49;refine (C2.out _).mono ?_;rintro e wA ⟨rfl,hb⟩;have nP:=aM (blk_below HP.out hb);have nC:=aM (blk_below HC.out hb);have nB:=aM (HB.out.trans (hb.mono HB.out.size));have nZ:=aM (Nat.le_trans HZ.out hb.size);clear hb HP HC HB HZ;have HP:=nP;have HC:=nC;have HB:=nB;have HZ:=nZ;clear nP nC nB nZ;have K0:=(blk_cell HC.out 0).trans rfl;have K1:=(blk_cell HC.out 1).trans rfl;have F0:=blk_frozen HC.out 0;have F1:=blk_frozen HC.out 1)
     all_goals
      go_roundg 0
      case measure=>omega
      case rel=>exact ⟨3,z,o,2,.inr (.inr (.inr rfl)),by decide,rfl,rfl,by omega,⟨HP.out⟩,⟨HC.out⟩,⟨by have e:=HV.out;show voteStep 2 x2 (voteAt x0 x1 x2 2) = _;rw [e];simp [voteStep,d1,d2]⟩,⟨HB.out⟩,⟨by have:=HZ.out;first|exact this|simpa [World.setCell] using this⟩⟩
  ·have HR:=aM (HE.out.symm.trans (congrArg lettersEnd HV.out))
   have K0:=(blk_cell HC.out 0).trans rfl
   have K1:=(blk_cell HC.out 1).trans rfl
   have e:(if z = 1 ∧ o = 1 then ((0:Int),s) else if z > o then (48,-1) else (49,-1)) = (r1,r2):=HR.out.symm
   clear HR
   by_cases e1:z = 1
   ·have b1:(z == 1) = true:=beq_iff_eq.mpr e1
    by_cases e2:o = 1
    ·have b2:(o == 1) = true:=beq_iff_eq.mpr e2
     rw [if_pos ⟨e1,e2⟩] at e
     obtain ⟨rfl,rfl⟩:=Prod.mk.inj e
     clear e1 e2
     go_wp2
     go_ret2
     exact ⟨rfl,HB.out⟩
    ·have b2:(o == 1) = false:=beq_eq_false_iff_ne.mpr e2
     rw [if_neg (fun h=>e2 h.2)] at e
     by_cases e3:z > o
     ·rw [if_pos e3] at e
      obtain ⟨rfl,rfl⟩:=Prod.mk.inj e
      have b3:decide (o < z) = true:=decide_eq_true e3
      have b4:decide (z > o) = true:=decide_eq_true e3
      go_wp2
      go_ret2
      exact ⟨rfl,HB.out⟩
     ·rw [if_neg e3] at e
      obtain ⟨rfl,rfl⟩:=Prod.mk.inj e
      have b3:decide (o < z) = false:=decide_eq_false e3
      have b4:decide (z > o) = false:=decide_eq_false e3
      go_wp2
      go_ret2
      exact ⟨rfl,HB.out⟩
   ·have b1:(z == 1) = false:=beq_eq_false_iff_ne.mpr e1
    rw [if_neg (fun h=>e1 h.1)] at e
    by_cases e3:z > o
    ·rw [if_pos e3] at e
     obtain ⟨rfl,rfl⟩:=Prod.mk.inj e
     have b3:decide (o < z) = true:=decide_eq_true e3
     have b4:decide (z > o) = true:=decide_eq_true e3
     go_wp2
     go_ret2
     exact ⟨rfl,HB.out⟩
    ·rw [if_neg e3] at e
     obtain ⟨rfl,rfl⟩:=Prod.mk.inj e
     have b3:decide (o < z) = false:=decide_eq_false e3
     have b4:decide (z > o) = false:=decide_eq_false e3
     go_wp2
     go_ret2
     exact ⟨rfl,HB.out⟩
end
theorem eqA50 (d:Nat) (w:World) (x0 y0 x1 y1 x2 y2 x3 y3 x4 y4 x5 y5:ByteArray) :
  (Op.equalIn (d + 3) 50 (.agg #[.string x0,.string x1,.string x2,.string x3,.string x4,.string x5]) (.agg #[.string y0,.string y1,.string y2,.string y3,.string y4,.string y5])).run Try.prog w
   = .ok ((x0.toList == y0.toList && (x1.toList == y1.toList)) && ((x2.toList == y2.toList && (x3.toList == y3.toList)) && (x4.toList == y4.toList && (x5.toList == y5.toList)))) w:=by
 have hu:=Try.underlying50
 have e0:=eqA25 d w x0 y0 x1 y1
 have e1:=eqA25 d w x2 y2 x3 y3
 have e2:=eqA25 d w x4 y4 x5 y5
 have hs:(sizeOf 25).run Try.prog w = .ok 2 w:=by kernel_rfl
 have p0:∀ a0 a1 a2 a3 a4 a5:Value,(part 25 #[a0,a1,a2,a3,a4,a5] 0).run Try.prog w = .ok (.agg #[a0,a1]) w:=fun _ _ _ _ _ _=>by kernel_rfl
 have p1:∀ a0 a1 a2 a3 a4 a5:Value,(part 25 #[a0,a1,a2,a3,a4,a5] 2).run Try.prog w = .ok (.agg #[a2,a3]) w:=fun _ _ _ _ _ _=>by kernel_rfl
 have p2:∀ a0 a1 a2 a3 a4 a5:Value,(part 25 #[a0,a1,a2,a3,a4,a5] 4).run Try.prog w = .ok (.agg #[a4,a5]) w:=fun _ _ _ _ _ _=>by kernel_rfl
 have hr:List.range' 0 3 = [0,1,2]:=rfl
 generalize (x0.toList == y0.toList && (x1.toList == y1.toList)) = b0 at e0 ⊢
 generalize (x2.toList == y2.toList && (x3.toList == y3.toList)) = b1 at e1 ⊢
 generalize (x4.toList == y4.toList && (x5.toList == y5.toList)) = b2 at e2 ⊢
 unfold Op.equalIn
 cases b0 <;> cases b1 <;> cases b2 <;> simp [hu,hs,run_underlying,Result.andThen,Std.Legacy.Range.forIn_eq_forIn_range',Std.Legacy.Range.size,hr,p0,p1,p2,e0,e1,e2]
end Go.Proofs.Ytmhpbilkocnlnaa.Q
end
section
namespace Go.Proofs.Ytmhpbilkocnlnaa.Q
open Go.Proofs.YtmhpbilkocnlnaaW.Ext
open Go.RowKit Go.Proofs.YtmhpbilkocnlnaaW.PrintWords Go.Proofs.YtmhpbilkocnlnaaW.PrintLast Go.Proofs.YtmhpbilkocnlnaaW.PrintMore
attribute [local go_sem] max2_int min2_int max_two min_two max_three min_three max_four min_four   -- for this text's walks alone
set_option linter.unusedVariables false
set_option linter.unusedSimpArgs false
attribute [local go_sem high] eqA25
def spec_l06Same.j0:Nat → Bool → ByteArray → ByteArray → ByteArray → ByteArray → ByteArray → ByteArray → Option (ByteArray × ByteArray × Bool)
 | 0,_,_,_,_,_,_,_=>none
 | k + 1,x4,x541000,x541001,x541002,x541003,x541004,x541005=>if x4 = true then (some (x541000,x541001,true)) else (if (x541002.toList == x541004.toList && (x541003.toList == x541005.toList)) = true then (some (x541002,x541003,true)) else (some ((⟨#[]⟩:ByteArray),(⟨#[]⟩:ByteArray),false)))
def spec_l06Same.f (k:Nat) (a0_0:ByteArray) (a0_1:ByteArray) (a0_2:ByteArray) (a0_3:ByteArray) (a0_4:ByteArray) (a0_5:ByteArray):Option (ByteArray × ByteArray × Bool):=if (a0_0.toList == a0_2.toList && (a0_1.toList == a0_3.toList)) = true then (spec_l06Same.j0 k true a0_0 a0_1 a0_2 a0_3 a0_4 a0_5) else (spec_l06Same.j0 k (a0_0.toList == a0_4.toList && (a0_1.toList == a0_5.toList)) a0_0 a0_1 a0_2 a0_3 a0_4 a0_5)
theorem spec_l06Same.mono_l:∀ k,(∀ y0 y1 y2 y3 y4 y5 y6,LeO (spec_l06Same.j0 k y0 y1 y2 y3 y4 y5 y6) (spec_l06Same.j0 (k + 1) y0 y1 y2 y3 y4 y5 y6))
 | 0=>fun _ _ _ _ _ _ _ r h=>by simp [spec_l06Same.j0] at h
 | k + 1=>by
  have ih0:=spec_l06Same.mono_l k
  ·intro y0 y1 y2 y3 y4 y5 y6
   unfold spec_l06Same.j0
   repeat' first
   | (with_reducible exact ih0 _ _ _ _ _ _ _)
   | (with_reducible exact LeO.refl _)
   | (with_reducible exact LeO.none _)
   | (with_reducible refine LeO.ite ?_ ?_)
   | (with_reducible refine LeO.bind ?_ (fun _=>?_))
   | exact ih0 _ _ _ _ _ _ _
   | exact LeO.none _
   | refine LeO.ite ?_ ?_
   | refine LeO.bind ?_ (fun _=>?_)
theorem spec_l06Same.mono:∀ a0 a1 a2 a3 a4 a5 k,LeO (spec_l06Same.f k a0 a1 a2 a3 a4 a5) (spec_l06Same.f (k + 1) a0 a1 a2 a3 a4 a5):=by
 intro a0 a1 a2 a3 a4 a5 k
 have ih0:=spec_l06Same.mono_l k
 unfold spec_l06Same.f
 repeat' first
   | (with_reducible exact ih0 _ _ _ _ _ _ _)
   | (with_reducible exact LeO.refl _)
   | (with_reducible exact LeO.none _)
   | (with_reducible refine LeO.ite ?_ ?_)
   | (with_reducible refine LeO.bind ?_ (fun _=>?_))
   | exact ih0 _ _ _ _ _ _ _
   | exact LeO.none _
   | refine LeO.ite ?_ ?_
   | refine LeO.bind ?_ (fun _=>?_)
set_option maxHeartbeats 8000000 in
set_option maxRecDepth 100000 in
theorem spec_l06Same.calls (k:Nat) (a0_0:ByteArray) (a0_1:ByteArray) (a0_2:ByteArray) (a0_3:ByteArray) (a0_4:ByteArray) (a0_5:ByteArray) (r1:ByteArray) (r2:ByteArray) (r3:Bool) (w:World) (h:spec_l06Same.f k a0_0 a0_1 a0_2 a0_3 a0_4 a0_5 = some (r1,r2,r3)) :
  Calls Try.prog 55 #[.agg #[.string a0_0,.string a0_1,.string a0_2,.string a0_3,.string a0_4,.string a0_5]] w fun e w'=>e = .returned (.tuple #[.agg #[.string r1,.string r2],.bool r3]) ∧ Below w.heap.size w w':=by
 have hu50:=Try.underlying50
 have hu25:=Try.underlying25
 have HB:=aM (Below.refl w.heap.size w)
 have H:(if (a0_0.toList == a0_2.toList && (a0_1.toList == a0_3.toList)) = true then (spec_l06Same.j0 k true a0_0 a0_1 a0_2 a0_3 a0_4 a0_5) else (spec_l06Same.j0 k (a0_0.toList == a0_4.toList && (a0_1.toList == a0_5.toList)) a0_0 a0_1 a0_2 a0_3 a0_4 a0_5)) = some (r1,r2,r3):=h
 clear h
 have HC2:=aM H
 clear H
 go_enter Try.func55,Try.ntmps55
 go_upto_region 1 with (first|((with_reducible refine gate_dst (N:=1) rfl ?_);refine box_event rfl (N:=1) rfl (cs:=#[.string a0_0,.string a0_1,.string a0_2,.string a0_3,.string a0_4,.string a0_5]) (t:=50) (by first|(go_simp;done)|(go_simp;rfl)) ?_;intro gb540 hg w3 hbox hb;have BK540:=aM (hbox);have GW540:=wl hg HB;have GE540:=wl hg HB;replace HB:=bs HB hb;clear hb hbox hg)|((with_reducible refine gate_dst (N:=2) rfl ?_);refine box_event rfl (N:=2) rfl (cs:=#[.string ⟨#[]⟩,.string ⟨#[]⟩]) (t:=25) (by first|(go_simp;done)|(go_simp;rfl)) ?_;intro gb541 hg w4 hbox hb;have BK541:=aM (hbox);have GW541:=wl hg HB;have GE541:=wl hg HB;have NB540_541:=nl hg BK540;have NB541_540:=nr hg BK540;replace BK540:=kb BK540 hb;replace HB:=bs HB hb;clear hb hbox hg))
 (try simp only [Act.put,sI,sZ,sS])
 go_cut [4] (fun v4 wc=>∃ (kq:Nat) (x4_1:Bool),v4 = .bool x4_1 ∧ Aside0 (spec_l06Same.j0 kq x4_1 a0_0 a0_1 a0_2 a0_3 a0_4 a0_5 = some (r1,r2,r3)) ∧ Aside0 (kq ≤ k) ∧ Aside0 (wc.heap[gb540]? = some (.cells #[.string a0_0,.string a0_1,.string a0_2,.string a0_3,.string a0_4,.string a0_5] 50 (0,0))) ∧ Aside0 (wc.heap[gb541]? = some (.cells #[.string ⟨#[]⟩,.string ⟨#[]⟩] 25 (0,0))) ∧ Aside0 (Below w.heap.size w wc))
 case first =>
  have H:=HC2.out
  clear HC2
  by_cases c5:(a0_0.toList == a0_2.toList && (a0_1.toList == a0_3.toList)) = true
  ·rw [if_pos c5] at H
   have c5b0:(a0_0.toList == a0_2.toList && (a0_1.toList == a0_3.toList)) = true:=c5
   (try (have c5b1:decide (a0_0.toList = a0_2.toList && (a0_1.toList == a0_3.toList)) = true:=by simpa using c5))
   (try (have c5b2:(a0_0.toList == a0_2.toList && (a0_1.toList == a0_3.toList)) = true:=by simpa using c5))
   clear c5
   (first|rw [c5b0]|(simp only [i64_w,i32_w];rw [c5b0])|skip)
   have H':=aM H
   clear H
   have hnb6:=NB540_541.out
   have hnc6:=NB541_540.out
   have⟨a0,a1,a2,a3,a4,a5,b0,b1,b2,b3,b4,b5⟩:=q6f BK540
   go_wp2
   go_meet
   case rel=>exact ⟨_,(true),(by first|rfl|(simp;done)|(simp [*];done)),H',⟨by first|omega|exact Nat.le_refl _⟩,⟨bk BK540⟩,⟨bk BK541⟩,⟨bb HB⟩⟩
  ·rw [if_neg c5] at H
   have c5b0:(a0_0.toList == a0_2.toList && (a0_1.toList == a0_3.toList)) = false:=by simpa using c5
   (try (have c5b1:decide (a0_0.toList = a0_2.toList && (a0_1.toList == a0_3.toList)) = false:=by simpa using c5))
   (try (have c5b2:(a0_0.toList == a0_2.toList && (a0_1.toList == a0_3.toList)) = false:=by simpa using c5))
   (try (have c5b3:¬ (a0_0.toList = a0_2.toList && (a0_1.toList == a0_3.toList)):=by simpa using c5))
   clear c5
   (first|rw [c5b0]|(simp only [i64_w,i32_w];rw [c5b0])|skip)
   have H':=aM H
   clear H
   have hnb8:=NB540_541.out
   have hnc8:=NB541_540.out
   have⟨a0,a1,a2,a3,a4,a5,b0,b1,b2,b3,b4,b5⟩:=q6f BK540
   go_wp2
   go_meet
   case rel=>exact ⟨_,((a0_0.toList == a0_4.toList && (a0_1.toList == a0_5.toList))),(by first|rfl|(simp;done)|(simp [*];done)),H',⟨by first|omega|exact Nat.le_refl _⟩,⟨bk BK540⟩,⟨bk BK541⟩,⟨bb HB⟩⟩
 case rest =>
  clear HC2
  try clear p2
  try clear c5
  try clear c5b0
  try clear c5b1
  try clear c5b2
  try clear c6
  try clear c8
  try clear hcz7_0
  try clear hcz7_1
  try clear hcz7_2
  try clear hcz7_3
  try clear hcz7_4
  try clear hcz7_5
  try clear hcz9_0
  try clear hcz9_1
  try clear hcz9_2
  try clear hcz9_3
  try clear hcz9_4
  try clear hcz9_5
  try clear hfz7_0
  try clear hfz7_1
  try clear hfz7_2
  try clear hfz7_3
  try clear hfz7_4
  try clear hfz7_5
  try clear hfz9_0
  try clear hfz9_1
  try clear hfz9_2
  try clear hfz9_3
  try clear hfz9_4
  try clear hfz9_5
  obtain ⟨kq,x4_1,rfl,HA,HJ1,BK540,BK541,HB⟩:=hcut
  cases kq with
  | zero=>exact absurd HA.out (by simp [spec_l06Same.j0])
  | succ kj1 =>
   have H:=HA.out
   clear HA
   simp only [spec_l06Same.j0] at H
   by_cases c10:x4_1 = true
   ·subst c10
    have H1:(some (a0_0,a0_1,true)) = some (r1,r2,r3):=by rw [if_pos rfl] at H;exact H
    clear H
    have H:=H1
    clear H1
    simp only [Option.some.injEq,Prod.mk.injEq] at H
    obtain ⟨rfl,rfl,rfl⟩:=H
    have hnb11:=NB540_541.out
    have hnc11:=NB541_540.out
    have⟨a0,a1,a2,a3,a4,a5,b0,b1,b2,b3,b4,b5⟩:=q6f BK540;have⟨a0,a1,b0,b1⟩:=q2f BK541
    go_wp2
    refine bodyPost_ret (results_ct rfl _ _ gb541 25 #[.string a0_0,.string a0_1] (0,0) _ rfl (by (with_reducible repeat (first|apply yN|apply yD|apply yA));refine blk_put (cs:=#[.string a0_0,.string ⟨#[]⟩]) ?_ 1 _ rfl;(with_reducible repeat (first|apply yN|apply yD|apply yA));refine blk_put (cs:=#[.string ⟨#[]⟩,.string ⟨#[]⟩]) ?_ 0 _ rfl;(with_reducible repeat (first|apply yN|apply yD|apply yA));exact BK541.out) Try.underlying25 rfl (by kernel_rfl)) rfl ?_
    exact ⟨rfl,by first|exact bb HB|exact bg HB GE540|exact bg HB GE541⟩
   ·replace c10:=Bool.eq_false_iff.mpr c10
    subst c10
    have H1:(if (a0_2.toList == a0_4.toList && (a0_3.toList == a0_5.toList)) = true then (some (a0_2,a0_3,true)) else (some ((⟨#[]⟩:ByteArray),(⟨#[]⟩:ByteArray),false))) = some (r1,r2,r3):=by rw [if_neg (show ¬ (false = true) by decide)] at H;exact H
    clear H
    have H:=H1
    clear H1
    by_cases c14:(a0_2.toList == a0_4.toList && (a0_3.toList == a0_5.toList)) = true
    ·rw [if_pos c14] at H
     have c14b0:(a0_2.toList == a0_4.toList && (a0_3.toList == a0_5.toList)) = true:=c14
     (try (have c14b1:decide (a0_2.toList = a0_4.toList && (a0_3.toList == a0_5.toList)) = true:=by simpa using c14))
     (try (have c14b2:(a0_2.toList == a0_4.toList && (a0_3.toList == a0_5.toList)) = true:=by simpa using c14))
     clear c14
     simp only [Option.some.injEq,Prod.mk.injEq] at H
     obtain ⟨rfl,rfl,rfl⟩:=H
     have hnb15:=NB540_541.out
     have hnc15:=NB541_540.out
     have⟨a0,a1,a2,a3,a4,a5,b0,b1,b2,b3,b4,b5⟩:=q6f BK540;have⟨a0,a1,b0,b1⟩:=q2f BK541
     go_wp2
     refine bodyPost_ret (results_ct rfl _ _ gb541 25 #[.string a0_2,.string a0_3] (0,0) _ rfl (by (with_reducible repeat (first|apply yN|apply yD|apply yA));refine blk_put (cs:=#[.string a0_2,.string ⟨#[]⟩]) ?_ 1 _ rfl;(with_reducible repeat (first|apply yN|apply yD|apply yA));refine blk_put (cs:=#[.string ⟨#[]⟩,.string ⟨#[]⟩]) ?_ 0 _ rfl;(with_reducible repeat (first|apply yN|apply yD|apply yA));exact BK541.out) Try.underlying25 rfl (by kernel_rfl)) rfl ?_
     exact ⟨rfl,by first|exact bb HB|exact bg HB GE540|exact bg HB GE541⟩
    ·rw [if_neg c14] at H
     have c14b0:(a0_2.toList == a0_4.toList && (a0_3.toList == a0_5.toList)) = false:=by simpa using c14
     (try (have c14b1:decide (a0_2.toList = a0_4.toList && (a0_3.toList == a0_5.toList)) = false:=by simpa using c14))
     (try (have c14b2:(a0_2.toList == a0_4.toList && (a0_3.toList == a0_5.toList)) = false:=by simpa using c14))
     (try (have c14b3:¬ (a0_2.toList = a0_4.toList && (a0_3.toList == a0_5.toList)):=by simpa using c14))
     clear c14
     simp only [Option.some.injEq,Prod.mk.injEq] at H
     obtain ⟨rfl,rfl,rfl⟩:=H
     have hnb18:=NB540_541.out
     have hnc18:=NB541_540.out
     have⟨a0,a1,a2,a3,a4,a5,b0,b1,b2,b3,b4,b5⟩:=q6f BK540;have⟨a0,a1,b0,b1⟩:=q2f BK541
     go_wp2
     refine bodyPost_ret (results_ct rfl _ _ gb541 25 #[.string ⟨#[]⟩,.string ⟨#[]⟩] (0,0) _ rfl (by (with_reducible repeat (first|apply yN|apply yD|apply yA));refine blk_put (cs:=#[.string ⟨#[]⟩,.string ⟨#[]⟩]) ?_ 1 _ rfl;(with_reducible repeat (first|apply yN|apply yD|apply yA));refine blk_put (cs:=#[.string ⟨#[]⟩,.string ⟨#[]⟩]) ?_ 0 _ rfl;(with_reducible repeat (first|apply yN|apply yD|apply yA));exact BK541.out) Try.underlying25 rfl (by kernel_rfl)) rfl ?_
     exact ⟨rfl,by first|exact bb HB|exact bg HB GE540|exact bg HB GE541⟩
end Go.Proofs.Ytmhpbilkocnlnaa.Q
end
section
namespace Go.Proofs.Ytmhpbilkocnlnaa.Q
open Go.Proofs.YtmhpbilkocnlnaaW.Ext
open Go.RowKit Go.Proofs.YtmhpbilkocnlnaaW.PrintWords Go.Proofs.YtmhpbilkocnlnaaW.PrintLast Go.Proofs.YtmhpbilkocnlnaaW.PrintMore
attribute [local go_sem] max2_int min2_int max_two min_two max_three min_three max_four min_four   -- for this text's walks alone
set_option linter.unusedVariables false
set_option linter.unusedSimpArgs false
def spec_l06Told.f (k:Nat) (a0:ByteArray) (a1:ByteArray):Option (ByteArray × ByteArray × Bool):=(spec_l01Canonical.f k a0 a1).bind fun bt555=>(some (bt555.1,bt555.2,decide ((wrap64 ((bt555.1.size:Int) + (bt555.2.size:Int))) ≤ 64)))
theorem spec_l06Told.mono:∀ a0 a1 k,LeO (spec_l06Told.f k a0 a1) (spec_l06Told.f (k + 1) a0 a1):=by
 intro a0 a1 k
 unfold spec_l06Told.f
 repeat' first
   | (with_reducible exact spec_l01Canonical.mono _ _ _)
   | (with_reducible exact LeO.refl _)
   | (with_reducible exact LeO.none _)
   | (with_reducible refine LeO.ite ?_ ?_)
   | (with_reducible refine LeO.bind ?_ (fun _=>?_))
   | exact spec_l01Canonical.mono _ _ _
   | exact LeO.none _
   | refine LeO.ite ?_ ?_
   | refine LeO.bind ?_ (fun _=>?_)
def spec_l06Told.T2:Bool × List (List Nat × List Nat):=(true,[([],[]),([],[]),([1],[1]),([2],[2]),([],[]),([4],[4]),([5],[5]),([3,6],[3,6]),([7],[7]),([0,0],[0]),([8,9,0,1,2,3,4,5,6,7,8,9],[8])])
def spec_l06Told.B2:List Nat:=[0,0,2,6,0,16,48,126,254,1,1023]
theorem spec_l06Told.tab2:rtab .any (opsOf Try.f56 2) = spec_l06Told.T2:=by kernel_rfl
theorem spec_l06Told.bits2:waitsOk spec_l06Told.T2.2 spec_l06Told.B2 = true:=by kernel_rfl
set_option maxHeartbeats 8000000 in
set_option maxRecDepth 100000 in
theorem spec_l06Told.calls (k:Nat) (a0:ByteArray) (a1:ByteArray) (r1:ByteArray) (r2:ByteArray) (r3:Bool) (w:World) (h:spec_l06Told.f k a0 a1 = some (r1,r2,r3)) :
  Calls Try.prog 56 #[.string a0,.string a1] w fun e w'=>e = .returned (.tuple #[.agg #[.string r1,.string r2],.bool r3]) ∧ Below w.heap.size w w':=by
 have hu25:=Try.underlying25
 have HB:=aM (Below.refl w.heap.size w)
 have H:((spec_l01Canonical.f k a0 a1).bind fun bt555=>(some (bt555.1,bt555.2,decide ((wrap64 ((bt555.1.size:Int) + (bt555.2.size:Int))) ≤ 64)))) = some (r1,r2,r3):=h
 clear h
 replace H:=Option.bind_eq_some_iff.mp H
 obtain ⟨⟨t555,t556⟩,A30,H⟩:=H
 replace H:(some (t555,t556,decide ((wrap64 ((t555.size:Int) + (t556.size:Int))) ≤ 64))) = some (r1,r2,r3):=H;have A3:=aM A30
 clear A30
 simp only [Option.some.injEq,Prod.mk.injEq] at H
 obtain ⟨rfl,rfl,rfl⟩:=H
 go_enter Try.func56,Try.ntmps56
 try go_wp2_with (first|((with_reducible refine gate_dst (N:=4) rfl ?_);refine box_event rfl (N:=4) rfl (cs:=#[.string ⟨#[]⟩,.string ⟨#[]⟩]) (t:=25) (by first|(go_simp;done)|(go_simp;rfl)) ?_;intro gb554 hg w4 hbox hb;have BK554:=aM (hbox);have GW554:=wl hg HB;have GE554:=wl hg HB;replace HB:=bs HB hb;clear hb hbox hg)|((with_reducible refine gate_callee (f:=40) rfl ?_);refine goesL_ (some 9) rfl rfl Try.func40 (by kernel_rfl) rfl #[.string a0,.string a1] rfl (by (try simp only [sM,sC,sN]);first|done|rfl) ?_;(with_reducible refine (spec_l01Canonical.calls k a0 a1 t555 t556 _ A3.out).mono ?_);rintro e w5 ⟨rfl,hb⟩;refine ⟨_,rfl,?_⟩;replace BK554:=kb BK554 hb;replace HB:=bs HB hb;(try clear hb))|((with_reducible refine gate_dst (N:=6) rfl ?_);refine box_event rfl (N:=6) rfl (cs:=#[.string ⟨#[]⟩,.string ⟨#[]⟩]) (t:=25) (by first|(go_simp;done)|(go_simp;rfl)) ?_;intro gb557 hg w6 hbox hb;have BK557:=aM (hbox);have GW557:=wl hg HB;have GE557:=wl hg HB;have NB554_557:=nl hg BK554;have NB557_554:=nr hg BK554;replace BK554:=kb BK554 hb;replace HB:=bs HB hb;clear hb hbox hg;have hnb7:=NB557_554.out;have hnc7:=NB554_557.out;have⟨a0,a1,b0,b1⟩:=q2f BK557))
 have n0_:Aside0 (((w6.setCell ⟨gb557,0,none⟩ (.string t555)).setCell ⟨gb557,1,none⟩ (.string t556)).heap[gb554]? = some (.cells #[.string ⟨#[]⟩,.string ⟨#[]⟩] 25 (0,0))):=⟨bf BK554 NB554_557⟩
 have n1_:Aside0 (((w6.setCell ⟨gb557,0,none⟩ (.string t555)).setCell ⟨gb557,1,none⟩ (.string t556)).heap[gb557]? = some (.cells #[.string t555,.string t556] 25 (0,0))):=⟨by (with_reducible repeat (first|apply yN|apply yD|apply yA));refine blk_put (cs:=#[.string t555,.string ⟨#[]⟩]) ?_ 1 _ rfl;(with_reducible repeat (first|apply yN|apply yD|apply yA));refine blk_put (cs:=#[.string ⟨#[]⟩,.string ⟨#[]⟩]) ?_ 0 _ rfl;(with_reducible repeat (first|apply yN|apply yD|apply yA));exact BK557.out⟩
 have n2_:Aside0 (Below w.heap.size w ((w6.setCell ⟨gb557,0,none⟩ (.string t555)).setCell ⟨gb557,1,none⟩ (.string t556))):=⟨by first|exact bb HB|exact bg HB GE554|exact bg HB GE557⟩
 (try clear BK554);(try clear BK557);(try clear HB)
 generalize ((w6.setCell ⟨gb557,0,none⟩ (.string t555)).setCell ⟨gb557,1,none⟩ (.string t556)) = w9 at n0_ n1_ n2_ ⊢
 have BK554:=n0_
 have BK557:=n1_
 have HB:=n2_
 clear n0_ n1_ n2_
 replace BK554:=aM (yD BK554.out);replace BK557:=aM (yD BK557.out);replace HB:=aM (zD HB.out)
 refine start_ (n:=11) (S:=fun w'=>w'.cell? ⟨gb557,0,none⟩ = some (.string t555) ∧ w'.cell? ⟨gb557,1,none⟩ = some (.string t556)) (ds:=[]) #[fF,fF,fF,fF,fF,fF,fF,fF,fF,fF,fF] (by kernel_rfl) rfl rfl ⟨(blk_cell BK557.out 0).trans rfl,(blk_cell BK557.out 1).trans rfl⟩ (fun hHeld=>?_);refine with_tabW spec_l06Told.tab2 spec_l06Told.bits2 (fun HT_ HW_=>?_)
 generalize w9.drew = w10 at BK554 BK557 HB hHeld ⊢
 refine pz 11 1 #[fF,tT,fF,fF,fF,fF,fF,fF,fF,fF,fF] HT_ rfl rfl (by kernel_rfl) (fun _ _ _ h=>h) (by rfl) (by intro w';go_simp;with_reducible rfl) (by simp only [Act.put,sI,sZ,sS,i64_w,i32_w];rfl) ?_
 refine pz 14 4 #[fF,tT,fF,fF,tT,fF,fF,fF,fF,fF,fF] HT_ rfl rfl (by kernel_rfl) (fun _ _ _ h=>h) (by rfl) (by intro w';go_simp;with_reducible rfl) (by simp only [Act.put,sI,sZ,sS,i64_w,i32_w];rfl) ?_
 refine tz 10 0 #[tT,tT,fF,fF,tT,fF,fF,fF,fF,fF,fF] HT_ HW_ hHeld rfl rfl (by kernel_rfl) (fun _ _ _ h=>h) (by rfl) (by rintro w' ⟨s0,s1⟩;go_simp;with_reducible rfl) (by simp only [Act.put,sI,sZ,sS,i64_w,i32_w];rfl) ?_
 refine tz 12 2 #[tT,tT,tT,fF,tT,fF,fF,fF,fF,fF,fF] HT_ HW_ hHeld rfl rfl (by kernel_rfl) (fun _ _ _ h=>h) (by rfl) (by rintro w' ⟨s0,s1⟩;go_simp;with_reducible rfl) (by simp only [Act.put,sI,sZ,sS,i64_w,i32_w];rfl) ?_
 refine pz 13 3 #[tT,tT,tT,tT,tT,fF,fF,fF,fF,fF,fF] HT_ rfl rfl (by kernel_rfl) (fun _ _ _ h=>h) (by rfl) (by intro w';go_simp;with_reducible rfl) (by simp only [Act.put,sI,sZ,sS,i64_w,i32_w];rfl) ?_
 refine tz 15 5 #[tT,tT,tT,tT,tT,tT,fF,fF,fF,fF,fF] HT_ HW_ hHeld rfl rfl (by kernel_rfl) (fun _ _ _ h=>h) (by rfl) (by rintro w' ⟨s0,s1⟩;go_simp;with_reducible rfl) (by simp only [Act.put,sI,sZ,sS,i64_w,i32_w];rfl) ?_
 refine pz 16 6 #[tT,tT,tT,tT,tT,tT,tT,fF,fF,fF,fF] HT_ rfl rfl (by kernel_rfl) (fun _ _ _ h=>h) (by rfl) (by intro w';go_simp;with_reducible rfl) (by simp only [Act.put,sI,sZ,sS,i64_w,i32_w];rfl) ?_
 refine pz 17 7 #[tT,tT,tT,tT,tT,tT,tT,tT,fF,fF,fF] HT_ rfl rfl (by kernel_rfl) (fun _ _ _ h=>h) (by rfl) (by intro w';go_simp;with_reducible rfl) (by simp only [Act.put,sI,sZ,sS,i64_w,i32_w];rfl) ?_
 refine pz 18 8 #[tT,tT,tT,tT,tT,tT,tT,tT,tT,fF,fF] HT_ rfl rfl (by kernel_rfl) (fun _ _ _ h=>h) (by rfl) (by intro w';go_simp;with_reducible rfl) (by simp only [Act.put,sI,sZ,sS,i64_w,i32_w];rfl) ?_
 refine one_ (i:=9) (N:=none) #[tT,tT,tT,tT,tT,tT,tT,tT,tT,tT,fF] rfl rfl (one_of HT_.out (by kernel_rfl)) (by decide) (fun K hK=>?_)
 have hs11:w10.cell? ⟨gb554,0,none⟩ = some (.string ⟨#[]⟩):=(blk_cell BK554.out 0).trans rfl
 have hfs11:=blk_frozen BK554.out 0
 have hns11_1:=NB557_554.out
 have hms11_1:=NB554_557.out
 have hs12:w10.cell? ⟨gb554,1,none⟩ = some (.string ⟨#[]⟩):=(blk_cell BK554.out 1).trans rfl
 have hfs12:=blk_frozen BK554.out 1
 have hns12_1:=NB557_554.out
 have hms12_1:=NB554_557.out
 refine skip_ (w1:=?_) (by rfl) rfl ?_ ?_
 rotate_left
 ·go_simp
  rfl
 refine hK.out _ _ ⟨((cell_far (p:=⟨gb554,_,none⟩) NB557_554.out _).trans (((cell_far (p:=⟨gb554,_,none⟩) NB557_554.out _).trans (hHeld.1)))),((cell_far (p:=⟨gb554,_,none⟩) NB557_554.out _).trans (((cell_far (p:=⟨gb554,_,none⟩) NB557_554.out _).trans (hHeld.2))))⟩ (fun hHeld=>?_)
 clear hK K
 refine pz 5 10 #[tT,tT,tT,tT,tT,tT,tT,tT,tT,tT,tT] HT_ rfl rfl (by kernel_rfl) (fun _ _ _ h=>h) (by rfl) (by intro w';go_simp;with_reducible rfl) (by simp only [Act.put,sI,sZ,sS,i64_w,i32_w];rfl) ?_
 refine done_ (done_of HT_.out (by kernel_rfl)) ?_
 try go_wp2
 refine bodyPost_ret (results_ct rfl _ _ gb554 25 #[.string t555,.string t556] (0,0) _ rfl (by (with_reducible repeat (first|apply yN|apply yD|apply yA));refine blk_put (cs:=#[.string t555,.string ⟨#[]⟩]) ?_ 1 _ rfl;(with_reducible repeat (first|apply yN|apply yD|apply yA));refine blk_put (cs:=#[.string ⟨#[]⟩,.string ⟨#[]⟩]) ?_ 0 _ rfl;(with_reducible repeat (first|apply yN|apply yD|apply yA));exact BK554.out) Try.underlying25 rfl (by kernel_rfl)) rfl ?_
 exact ⟨rfl,by first|exact bb HB|exact bg HB GE554|exact bg HB GE557⟩
end Go.Proofs.Ytmhpbilkocnlnaa.Q
end
