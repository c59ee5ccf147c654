/- Joined texts: Qx29, Qx30, Qx31, Qx33, Qx34, Qx35, Qx36, Qx37, Qx38, Qx40, Qx41 -/
import Derived.Test.YtbiehbmojbmnoaaPkFnExactIsBetween22
import Derived.Test.YtbiehbmojbmnoaaPkFnExactIsBetween23
section
namespace Go.Proofs.Ytbiehbmojbmnoaa.Q
open Go.Proofs.YtbiehbmojbmnoaaW.Ext
open Go.RowKit Go.Proofs.YtbiehbmojbmnoaaW.PrintWords Go.Proofs.YtbiehbmojbmnoaaW.PrintLast Go.Proofs.YtbiehbmojbmnoaaW.PrintMore
attribute [local go_sem] max2_int min2_int max_two min_two max_three min_three max_four min_four   -- for this text's walks alone
set_option linter.unusedVariables false
set_option linter.unusedSimpArgs false
attribute [local go_sem high] eqA27
def impl_IsSequence.f (k:Nat) (a0_0:ByteArray) (a0_1:ByteArray):Option (Bool):=if a0_0.size + a0_1.size ≤ 9223372036854775807 then ((impl_areLetters.f (a0_0 ++ a0_1)).bind fun t223=>(if t223 = true then ((impl_areGiven.f a0_0 a0_1).bind fun t224=>(if t224 = true then ((impl_sequence.f k a0_0 a0_1).bind fun bt225=>(some (bt225.1.toList == a0_0.toList && (bt225.2.toList == a0_1.toList)))) else (some false))) else (some false))) else (none)
theorem impl_IsSequence.mono:∀ a0 a1 k,LeO (impl_IsSequence.f k a0 a1) (impl_IsSequence.f (k + 1) a0 a1):=by
 intro a0 a1 k
 unfold impl_IsSequence.f
 repeat' first
   | (with_reducible exact impl_sequence.mono _ _ _)
   | (with_reducible exact LeO.refl _)
   | (with_reducible exact LeO.none _)
   | (with_reducible refine LeO.ite ?_ ?_)
   | (with_reducible refine LeO.bind ?_ (fun _=>?_))
   | exact impl_sequence.mono _ _ _
   | exact LeO.none _
   | refine LeO.ite ?_ ?_
   | refine LeO.bind ?_ (fun _=>?_)
def impl_IsSequence.T1:Bool × List (List Nat × List Nat):=(true,[([],[]),([0],[0]),([],[]),([2],[2]),([1,3],[1,3]),([4],[4]),([5,5],[5]),([6],[6]),([7,6],[6,7]),([6],[6]),([9,6],[6,9]),([8,10,6,6],[6,8,10]),([6,11],[6,11]),([12,11],[12]),([13],[13]),([14,13],[13,14]),([13],[13]),([16,13],[13,16]),([15,17,13,13],[13,15,17]),([13],[13]),([18,19,13],[13,18,19]),([13,20],[13,20]),([21,18,0,1,2,3,4,5,6,7,8,9,10,11,12,13,14,15,16,17,18,19,20,21],[21])])
def impl_IsSequence.B1:List Nat:=[0,1,0,4,15,31,63,127,255,127,639,2047,4095,8191,16383,32767,16383,81919,262143,16383,1048575,2097151,4194303]
theorem impl_IsSequence.tab1:rtab .any (opsOf Try.f32 1) = impl_IsSequence.T1:=by kernel_rfl
theorem impl_IsSequence.bits1:waitsOk impl_IsSequence.T1.2 impl_IsSequence.B1 = true:=by kernel_rfl
set_option maxHeartbeats 8000000 in
set_option maxRecDepth 100000 in
theorem impl_IsSequence.calls (k:Nat) (a0_0:ByteArray) (a0_1:ByteArray) (r:Bool) (w:World) (h:impl_IsSequence.f k a0_0 a0_1 = some r) :
  Calls Try.prog 32 #[.agg #[.string a0_0,.string a0_1]] w fun e w'=>e = .returned (.bool r) ∧ Below w.heap.size w w':=by
 have hu27:=Try.underlying27
 have HB:=aM (Below.refl w.heap.size w)
 have H:(if a0_0.size + a0_1.size ≤ 9223372036854775807 then ((impl_areLetters.f (a0_0 ++ a0_1)).bind fun t223=>(if t223 = true then ((impl_areGiven.f a0_0 a0_1).bind fun t224=>(if t224 = true then ((impl_sequence.f k a0_0 a0_1).bind fun bt225=>(some (bt225.1.toList == a0_0.toList && (bt225.2.toList == a0_1.toList)))) else (some false))) else (some false))) else (none)) = some r:=h
 clear h
 by_cases c2:a0_0.size + a0_1.size ≤ 9223372036854775807
 ·rw [if_pos c2] at H
  have c2b0:=eq_true c2
  have c2b1:decide (a0_0.size + a0_1.size ≤ 9223372036854775807) = true:=decide_eq_true c2
  try have c2b2:(9223372036854775807 < a0_0.size + a0_1.size) = False:=eq_false (Nat.not_lt.2 c2)
  replace H:=Option.bind_eq_some_iff.mp H
  obtain ⟨t223,A30,H⟩:=H
  replace H:(if t223 = true then ((impl_areGiven.f a0_0 a0_1).bind fun t224=>(if t224 = true then ((impl_sequence.f k a0_0 a0_1).bind fun bt225=>(some (bt225.1.toList == a0_0.toList && (bt225.2.toList == a0_1.toList)))) else (some false))) else (some false)) = some r:=H;have A3:=aM A30
  clear A30
  by_cases c4:t223 = true
  ·subst c4
   have H1:((impl_areGiven.f a0_0 a0_1).bind fun t224=>(if t224 = true then ((impl_sequence.f k a0_0 a0_1).bind fun bt225=>(some (bt225.1.toList == a0_0.toList && (bt225.2.toList == a0_1.toList)))) else (some false))) = some r:=by rw [if_pos rfl] at H;exact H
   clear H
   have H:=H1
   clear H1
   replace H:=Option.bind_eq_some_iff.mp H
   obtain ⟨t224,A50,H⟩:=H
   replace H:(if t224 = true then ((impl_sequence.f k a0_0 a0_1).bind fun bt225=>(some (bt225.1.toList == a0_0.toList && (bt225.2.toList == a0_1.toList)))) else (some false)) = some r:=H;have A5:=aM A50
   clear A50
   by_cases c6:t224 = true
   ·subst c6
    have H1:((impl_sequence.f k a0_0 a0_1).bind fun bt225=>(some (bt225.1.toList == a0_0.toList && (bt225.2.toList == a0_1.toList)))) = some r:=by rw [if_pos rfl] at H;exact H
    clear H
    have H:=H1
    clear H1
    replace H:=Option.bind_eq_some_iff.mp H
    obtain ⟨⟨t225,t226⟩,A70,H⟩:=H
    replace H:(some (t225.toList == a0_0.toList && (t226.toList == a0_1.toList))) = some r:=H;have A7:=aM A70
    clear A70
    obtain rfl:=Option.some.inj H
    go_enter Try.func32,Try.ntmps32
    try go_wp2_with (first|((with_reducible refine gate_dst (N:=1) rfl ?_);refine box_event ?hg (N:=1) ?hd (cs:=#[.string a0_0,.string a0_1]) (t:=27) ?hr ?_;(case hd=>rfl);(case hg=>rfl);(case hr=>first|(go_simp;done)|(go_simp;rfl));intro gb222 hg w8 hbox hb;have BK222:=aM (hbox);have GW222:=wl hg HB;have GE222:=wl hg HB;replace HB:=bs HB hb;clear hb hbox hg))
    replace BK222:=aM (yD BK222.out);replace HB:=aM (zD HB.out)
    refine start_ (n:=23) (S:=fun w'=>w'.cell? ⟨gb222,0,none⟩ = some (.string a0_0) ∧ w'.cell? ⟨gb222,1,none⟩ = some (.string a0_1)) (ds:=[]) #[fF,fF,fF,fF,fF,fF,fF,fF,fF,fF,fF,fF,fF,fF,fF,fF,fF,fF,fF,fF,fF,fF,fF] (by kernel_rfl) rfl rfl ⟨(blk_cell BK222.out 0).trans rfl,(blk_cell BK222.out 1).trans rfl⟩ (fun hHeld=>?_);refine with_tabW impl_IsSequence.tab1 impl_IsSequence.bits1 (fun HT_ HW_=>?_)
    generalize w8.drew = w9 at BK222 HB hHeld ⊢
    refine pure_ (i:=0) (N:=some 3) (v:=?_) (a':=?_) #[tT,fF,fF,fF,fF,fF,fF,fF,fF,fF,fF,fF,fF,fF,fF,fF,fF,fF,fF,fF,fF,fF,fF] rfl rfl (any_of HT_.out (by kernel_rfl)) (fun _ _ _ h=>h) (Or.inl ⟨by rfl,?_⟩) ?_ ?_
    rotate_left
    ·intro w'
     go_simp
     with_reducible rfl
    rotate_left
    ·simp only [Act.put,sI,sZ,sS,i64_w,i32_w]
     rfl
    refine pure_ (i:=2) (N:=some 5) (v:=?_) (a':=?_) #[tT,fF,tT,fF,fF,fF,fF,fF,fF,fF,fF,fF,fF,fF,fF,fF,fF,fF,fF,fF,fF,fF,fF] rfl rfl (any_of HT_.out (by kernel_rfl)) (fun _ _ _ h=>h) (Or.inl ⟨by rfl,?_⟩) ?_ ?_
    rotate_left
    ·intro w'
     go_simp
     with_reducible rfl
    rotate_left
    ·simp only [Act.put,sI,sZ,sS,i64_w,i32_w]
     rfl
    refine take_ (i:=1) (N:=some 4) (v:=?_) (a':=?_) #[tT,tT,tT,fF,fF,fF,fF,fF,fF,fF,fF,fF,fF,fF,fF,fF,fF,fF,fF,fF,fF,fF,fF] rfl rfl (take_ofW HT_.out HW_.out (by kernel_rfl)) (fun _ _ _ h=>h) (Or.inl ⟨by rfl,?_⟩) hHeld ?_ ?_
    rotate_left
    ·rintro w' ⟨s0,s1⟩
     go_simp
     with_reducible rfl
    rotate_left
    ·simp only [Act.put,sI,sZ,sS,i64_w,i32_w]
     rfl
    refine take_ (i:=3) (N:=some 6) (v:=?_) (a':=?_) #[tT,tT,tT,tT,fF,fF,fF,fF,fF,fF,fF,fF,fF,fF,fF,fF,fF,fF,fF,fF,fF,fF,fF] rfl rfl (take_ofW HT_.out HW_.out (by kernel_rfl)) (fun _ _ _ h=>h) (Or.inl ⟨by rfl,?_⟩) hHeld ?_ ?_
    rotate_left
    ·rintro w' ⟨s0,s1⟩
     go_simp
     with_reducible rfl
    rotate_left
    ·simp only [Act.put,sI,sZ,sS,i64_w,i32_w]
     rfl
    refine pure_ (i:=4) (N:=some 7) (v:=?_) (a':=?_) #[tT,tT,tT,tT,tT,fF,fF,fF,fF,fF,fF,fF,fF,fF,fF,fF,fF,fF,fF,fF,fF,fF,fF] rfl rfl (any_of HT_.out (by kernel_rfl)) (fun _ _ _ h=>h) (Or.inl ⟨by rfl,?_⟩) ?_ ?_
    rotate_left
    ·intro w'
     go_simp
     with_reducible rfl
    rotate_left
    ·simp only [Act.put,sI,sZ,sS,i64_w,i32_w]
     rfl
    refine one_ (i:=5) (N:=some 8) #[tT,tT,tT,tT,tT,tT,fF,fF,fF,fF,fF,fF,fF,fF,fF,fF,fF,fF,fF,fF,fF,fF,fF] rfl rfl (one_of HT_.out (by kernel_rfl)) (by decide) (fun K hK=>?_)
    refine goes_ Try.func40 (by kernel_rfl) rfl #[.string (a0_0 ++ a0_1)] (by rfl) rfl rfl (by (try simp only [sM,sC,sN]);first|done|rfl|(simp only [List.length_drop,List.length_take];rfl)) ?_
    with_reducible refine (impl_areLetters.calls (a0_0 ++ a0_1) true _ A3.out).mono ?_
    rintro e w10 ⟨rfl,hb⟩
    refine ⟨_,rfl,?_⟩
    replace BK222:=kb BK222 hb;replace HB:=bs HB hb;(try clear hb)
    refine hK.out _ _ ⟨(blk_cell BK222.out 0).trans rfl,(blk_cell BK222.out 1).trans rfl⟩ (fun hHeld=>?_)
    clear hK K
    refine norm_ (a':=?_) ?_ ?_
    rotate_left
    ·show Act.put _ (some 8) _ = _
     simp only [Act.put,sI,sZ,sS,i64_w,i32_w]
     rfl
    refine pure_ (i:=6) (N:=some 9) (v:=?_) (a':=?_) #[tT,tT,tT,tT,tT,tT,tT,fF,fF,fF,fF,fF,fF,fF,fF,fF,fF,fF,fF,fF,fF,fF,fF] rfl rfl (any_of HT_.out (by kernel_rfl)) (fun _ _ _ h=>h) (Or.inl ⟨by rfl,?_⟩) ?_ ?_
    rotate_left
    ·intro w'
     go_simp
     with_reducible rfl
    rotate_left
    ·simp only [Act.put,sI,sZ,sS,i64_w,i32_w]
     rfl
    refine pure_ (i:=7) (N:=some 10) (v:=?_) (a':=?_) #[tT,tT,tT,tT,tT,tT,tT,tT,fF,fF,fF,fF,fF,fF,fF,fF,fF,fF,fF,fF,fF,fF,fF] rfl rfl (any_of HT_.out (by kernel_rfl)) (fun _ _ _ h=>h) (Or.inl ⟨by rfl,?_⟩) ?_ ?_
    rotate_left
    ·intro w'
     go_simp
     with_reducible rfl
    rotate_left
    ·simp only [Act.put,sI,sZ,sS,i64_w,i32_w]
     rfl
    refine pure_ (i:=9) (N:=some 12) (v:=?_) (a':=?_) #[tT,tT,tT,tT,tT,tT,tT,tT,fF,tT,fF,fF,fF,fF,fF,fF,fF,fF,fF,fF,fF,fF,fF] rfl rfl (any_of HT_.out (by kernel_rfl)) (fun _ _ _ h=>h) (Or.inl ⟨by rfl,?_⟩) ?_ ?_
    rotate_left
    ·intro w'
     go_simp
     with_reducible rfl
    rotate_left
    ·simp only [Act.put,sI,sZ,sS,i64_w,i32_w]
     rfl
    refine take_ (i:=8) (N:=some 11) (v:=?_) (a':=?_) #[tT,tT,tT,tT,tT,tT,tT,tT,tT,tT,fF,fF,fF,fF,fF,fF,fF,fF,fF,fF,fF,fF,fF] rfl rfl (take_ofW HT_.out HW_.out (by kernel_rfl)) (fun _ _ _ h=>h) (Or.inl ⟨by rfl,?_⟩) hHeld ?_ ?_
    rotate_left
    ·rintro w' ⟨s0,s1⟩
     go_simp
     with_reducible rfl
    rotate_left
    ·simp only [Act.put,sI,sZ,sS,i64_w,i32_w]
     rfl
    refine take_ (i:=10) (N:=some 13) (v:=?_) (a':=?_) #[tT,tT,tT,tT,tT,tT,tT,tT,tT,tT,tT,fF,fF,fF,fF,fF,fF,fF,fF,fF,fF,fF,fF] rfl rfl (take_ofW HT_.out HW_.out (by kernel_rfl)) (fun _ _ _ h=>h) (Or.inl ⟨by rfl,?_⟩) hHeld ?_ ?_
    rotate_left
    ·rintro w' ⟨s0,s1⟩
     go_simp
     with_reducible rfl
    rotate_left
    ·simp only [Act.put,sI,sZ,sS,i64_w,i32_w]
     rfl
    refine one_ (i:=11) (N:=some 14) #[tT,tT,tT,tT,tT,tT,tT,tT,tT,tT,tT,tT,fF,fF,fF,fF,fF,fF,fF,fF,fF,fF,fF] rfl rfl (one_of HT_.out (by kernel_rfl)) (by decide) (fun K hK=>?_)
    refine goes_ Try.func41 (by kernel_rfl) rfl #[.string a0_0,.string a0_1] (by rfl) rfl rfl (by (try simp only [sM,sC,sN]);first|done|rfl|(simp only [List.length_drop,List.length_take];rfl)) ?_
    with_reducible refine (impl_areGiven.calls a0_0 a0_1 true _ A5.out).mono ?_
    rintro e w' ⟨rfl,⟨nd,rfl⟩⟩
    refine ⟨_,rfl,?_⟩
    refine hK.out _ _ ⟨(blk_cell BK222.out 0).trans rfl,(blk_cell BK222.out 1).trans rfl⟩ (fun hHeld=>?_)
    clear hK K
    refine norm_ (a':=?_) ?_ ?_
    rotate_left
    ·show Act.put _ (some 14) _ = _
     simp only [Act.put,sI,sZ,sS,i64_w,i32_w]
     rfl
    refine pure_ (i:=12) (N:=some 15) (v:=?_) (a':=?_) #[tT,tT,tT,tT,tT,tT,tT,tT,tT,tT,tT,tT,tT,fF,fF,fF,fF,fF,fF,fF,fF,fF,fF] rfl rfl (any_of HT_.out (by kernel_rfl)) (fun _ _ _ h=>h) (Or.inl ⟨by rfl,?_⟩) ?_ ?_
    rotate_left
    ·intro w'
     go_simp
     with_reducible rfl
    rotate_left
    ·simp only [Act.put,sI,sZ,sS,i64_w,i32_w]
     rfl
    refine pure_ (i:=13) (N:=some 16) (v:=?_) (a':=?_) #[tT,tT,tT,tT,tT,tT,tT,tT,tT,tT,tT,tT,tT,tT,fF,fF,fF,fF,fF,fF,fF,fF,fF] rfl rfl (any_of HT_.out (by kernel_rfl)) (fun _ _ _ h=>h) (Or.inl ⟨by rfl,?_⟩) ?_ ?_
    rotate_left
    ·intro w'
     go_simp
     with_reducible rfl
    rotate_left
    ·simp only [Act.put,sI,sZ,sS,i64_w,i32_w]
     rfl
    refine pure_ (i:=14) (N:=some 17) (v:=?_) (a':=?_) #[tT,tT,tT,tT,tT,tT,tT,tT,tT,tT,tT,tT,tT,tT,tT,fF,fF,fF,fF,fF,fF,fF,fF] rfl rfl (any_of HT_.out (by kernel_rfl)) (fun _ _ _ h=>h) (Or.inl ⟨by rfl,?_⟩) ?_ ?_
    rotate_left
    ·intro w'
     go_simp
     with_reducible rfl
    rotate_left
    ·simp only [Act.put,sI,sZ,sS,i64_w,i32_w]
     rfl
    refine pure_ (i:=16) (N:=some 19) (v:=?_) (a':=?_) #[tT,tT,tT,tT,tT,tT,tT,tT,tT,tT,tT,tT,tT,tT,tT,fF,tT,fF,fF,fF,fF,fF,fF] rfl rfl (any_of HT_.out (by kernel_rfl)) (fun _ _ _ h=>h) (Or.inl ⟨by rfl,?_⟩) ?_ ?_
    rotate_left
    ·intro w'
     go_simp
     with_reducible rfl
    rotate_left
    ·simp only [Act.put,sI,sZ,sS,i64_w,i32_w]
     rfl
    refine take_ (i:=15) (N:=some 18) (v:=?_) (a':=?_) #[tT,tT,tT,tT,tT,tT,tT,tT,tT,tT,tT,tT,tT,tT,tT,tT,tT,fF,fF,fF,fF,fF,fF] rfl rfl (take_ofW HT_.out HW_.out (by kernel_rfl)) (fun _ _ _ h=>h) (Or.inl ⟨by rfl,?_⟩) hHeld ?_ ?_
    rotate_left
    ·rintro w' ⟨s0,s1⟩
     go_simp
     with_reducible rfl
    rotate_left
    ·simp only [Act.put,sI,sZ,sS,i64_w,i32_w]
     rfl
    refine take_ (i:=17) (N:=some 20) (v:=?_) (a':=?_) #[tT,tT,tT,tT,tT,tT,tT,tT,tT,tT,tT,tT,tT,tT,tT,tT,tT,tT,fF,fF,fF,fF,fF] rfl rfl (take_ofW HT_.out HW_.out (by kernel_rfl)) (fun _ _ _ h=>h) (Or.inl ⟨by rfl,?_⟩) hHeld ?_ ?_
    rotate_left
    ·rintro w' ⟨s0,s1⟩
     go_simp
     with_reducible rfl
    rotate_left
    ·simp only [Act.put,sI,sZ,sS,i64_w,i32_w]
     rfl
    refine take_ (i:=19) (N:=some 22) (v:=?_) (a':=?_) #[tT,tT,tT,tT,tT,tT,tT,tT,tT,tT,tT,tT,tT,tT,tT,tT,tT,tT,fF,tT,fF,fF,fF] rfl rfl (take_ofW HT_.out HW_.out (by kernel_rfl)) (fun _ _ _ h=>h) (Or.inl ⟨by rfl,?_⟩) hHeld ?_ ?_
    rotate_left
    ·rintro w' ⟨s0,s1⟩
     go_simp
     with_reducible rfl
    rotate_left
    ·simp only [Act.put,sI,sZ,sS,i64_w,i32_w]
     rfl
    refine one_ (i:=18) (N:=some 21) #[tT,tT,tT,tT,tT,tT,tT,tT,tT,tT,tT,tT,tT,tT,tT,tT,tT,tT,tT,tT,fF,fF,fF] rfl rfl (one_of HT_.out (by kernel_rfl)) (by decide) (fun K hK=>?_)
    refine goes_ Try.func25 (by kernel_rfl) rfl #[.string a0_0,.string a0_1] (by rfl) rfl rfl (by (try simp only [sM,sC,sN]);first|done|rfl|(simp only [List.length_drop,List.length_take];rfl)) ?_
    with_reducible refine (impl_sequence.calls k a0_0 a0_1 t225 t226 _ A7.out).mono ?_
    rintro e w11 ⟨rfl,hb⟩
    refine ⟨_,rfl,?_⟩
    replace BK222:=kb BK222 hb;replace HB:=bs HB hb;(try clear hb)
    refine hK.out _ _ ⟨(blk_cell BK222.out 0).trans rfl,(blk_cell BK222.out 1).trans rfl⟩ (fun hHeld=>?_)
    clear hK K
    refine norm_ (a':=?_) ?_ ?_
    rotate_left
    ·show Act.put _ (some 21) _ = _
     simp only [Act.put,sI,sZ,sS,i64_w,i32_w]
     rfl
    refine pure_ (i:=20) (N:=some 23) (v:=?_) (a':=?_) #[tT,tT,tT,tT,tT,tT,tT,tT,tT,tT,tT,tT,tT,tT,tT,tT,tT,tT,tT,tT,tT,fF,fF] rfl rfl (any_of HT_.out (by kernel_rfl)) (fun _ _ _ h=>h) (Or.inl ⟨by rfl,?_⟩) ?_ ?_
    rotate_left
    ·intro w'
     go_simp
     with_reducible rfl
    rotate_left
    ·simp only [Act.put,sI,sZ,sS,i64_w,i32_w]
     rfl
    refine pure_ (i:=21) (N:=some 24) (v:=?_) (a':=?_) #[tT,tT,tT,tT,tT,tT,tT,tT,tT,tT,tT,tT,tT,tT,tT,tT,tT,tT,tT,tT,tT,tT,fF] rfl rfl (any_of HT_.out (by kernel_rfl)) (fun _ _ _ h=>h) (Or.inl ⟨by rfl,?_⟩) ?_ ?_
    rotate_left
    ·intro w'
     go_simp
     with_reducible rfl
    rotate_left
    ·simp only [Act.put,sI,sZ,sS,i64_w,i32_w]
     rfl
    refine pure_ (i:=22) (N:=some 2) (v:=?_) (a':=?_) #[tT,tT,tT,tT,tT,tT,tT,tT,tT,tT,tT,tT,tT,tT,tT,tT,tT,tT,tT,tT,tT,tT,tT] rfl rfl (any_of HT_.out (by kernel_rfl)) (fun _ _ _ h=>h) (Or.inl ⟨by rfl,?_⟩) ?_ ?_
    rotate_left
    ·intro w'
     go_simp
     with_reducible rfl
    rotate_left
    ·simp only [Act.put,sI,sZ,sS,i64_w,i32_w]
     rfl
    refine done_ (done_of HT_.out (by kernel_rfl)) ?_
    try go_wp2
    go_ret
    exact ⟨by first|rfl|(simp [errW_none,errW_some] <;> rfl)|(simp [*,errW_none,errW_some] <;> rfl),bb HB⟩
   ·replace c6:=Bool.eq_false_iff.mpr c6
    subst c6
    have H1:(some false) = some r:=by rw [if_neg (show ¬ (false = true) by decide)] at H;exact H
    clear H
    have H:=H1
    clear H1
    obtain rfl:=Option.some.inj H
    go_enter Try.func32,Try.ntmps32
    try go_wp2_with (first|((with_reducible refine gate_dst (N:=1) rfl ?_);refine box_event ?hg (N:=1) ?hd (cs:=#[.string a0_0,.string a0_1]) (t:=27) ?hr ?_;(case hd=>rfl);(case hg=>rfl);(case hr=>first|(go_simp;done)|(go_simp;rfl));intro gb222 hg w12 hbox hb;have BK222:=aM (hbox);have GW222:=wl hg HB;have GE222:=wl hg HB;replace HB:=bs HB hb;clear hb hbox hg))
    replace BK222:=aM (yD BK222.out);replace HB:=aM (zD HB.out)
    refine start_ (n:=23) (S:=fun w'=>w'.cell? ⟨gb222,0,none⟩ = some (.string a0_0) ∧ w'.cell? ⟨gb222,1,none⟩ = some (.string a0_1)) (ds:=[]) #[fF,fF,fF,fF,fF,fF,fF,fF,fF,fF,fF,fF,fF,fF,fF,fF,fF,fF,fF,fF,fF,fF,fF] (by kernel_rfl) rfl rfl ⟨(blk_cell BK222.out 0).trans rfl,(blk_cell BK222.out 1).trans rfl⟩ (fun hHeld=>?_);refine with_tabW impl_IsSequence.tab1 impl_IsSequence.bits1 (fun HT_ HW_=>?_)
    generalize w12.drew = w13 at BK222 HB hHeld ⊢
    refine pure_ (i:=0) (N:=some 3) (v:=?_) (a':=?_) #[tT,fF,fF,fF,fF,fF,fF,fF,fF,fF,fF,fF,fF,fF,fF,fF,fF,fF,fF,fF,fF,fF,fF] rfl rfl (any_of HT_.out (by kernel_rfl)) (fun _ _ _ h=>h) (Or.inl ⟨by rfl,?_⟩) ?_ ?_
    rotate_left
    ·intro w'
     go_simp
     with_reducible rfl
    rotate_left
    ·simp only [Act.put,sI,sZ,sS,i64_w,i32_w]
     rfl
    refine pure_ (i:=2) (N:=some 5) (v:=?_) (a':=?_) #[tT,fF,tT,fF,fF,fF,fF,fF,fF,fF,fF,fF,fF,fF,fF,fF,fF,fF,fF,fF,fF,fF,fF] rfl rfl (any_of HT_.out (by kernel_rfl)) (fun _ _ _ h=>h) (Or.inl ⟨by rfl,?_⟩) ?_ ?_
    rotate_left
    ·intro w'
     go_simp
     with_reducible rfl
    rotate_left
    ·simp only [Act.put,sI,sZ,sS,i64_w,i32_w]
     rfl
    refine take_ (i:=1) (N:=some 4) (v:=?_) (a':=?_) #[tT,tT,tT,fF,fF,fF,fF,fF,fF,fF,fF,fF,fF,fF,fF,fF,fF,fF,fF,fF,fF,fF,fF] rfl rfl (take_ofW HT_.out HW_.out (by kernel_rfl)) (fun _ _ _ h=>h) (Or.inl ⟨by rfl,?_⟩) hHeld ?_ ?_
    rotate_left
    ·rintro w' ⟨s0,s1⟩
     go_simp
     with_reducible rfl
    rotate_left
    ·simp only [Act.put,sI,sZ,sS,i64_w,i32_w]
     rfl
    refine take_ (i:=3) (N:=some 6) (v:=?_) (a':=?_) #[tT,tT,tT,tT,fF,fF,fF,fF,fF,fF,fF,fF,fF,fF,fF,fF,fF,fF,fF,fF,fF,fF,fF] rfl rfl (take_ofW HT_.out HW_.out (by kernel_rfl)) (fun _ _ _ h=>h) (Or.inl ⟨by rfl,?_⟩) hHeld ?_ ?_
    rotate_left
    ·rintro w' ⟨s0,s1⟩
     go_simp
     with_reducible rfl
    rotate_left
    ·simp only [Act.put,sI,sZ,sS,i64_w,i32_w]
     rfl
    refine pure_ (i:=4) (N:=some 7) (v:=?_) (a':=?_) #[tT,tT,tT,tT,tT,fF,fF,fF,fF,fF,fF,fF,fF,fF,fF,fF,fF,fF,fF,fF,fF,fF,fF] rfl rfl (any_of HT_.out (by kernel_rfl)) (fun _ _ _ h=>h) (Or.inl ⟨by rfl,?_⟩) ?_ ?_
    rotate_left
    ·intro w'
     go_simp
     with_reducible rfl
    rotate_left
    ·simp only [Act.put,sI,sZ,sS,i64_w,i32_w]
     rfl
    refine one_ (i:=5) (N:=some 8) #[tT,tT,tT,tT,tT,tT,fF,fF,fF,fF,fF,fF,fF,fF,fF,fF,fF,fF,fF,fF,fF,fF,fF] rfl rfl (one_of HT_.out (by kernel_rfl)) (by decide) (fun K hK=>?_)
    refine goes_ Try.func40 (by kernel_rfl) rfl #[.string (a0_0 ++ a0_1)] (by rfl) rfl rfl (by (try simp only [sM,sC,sN]);first|done|rfl|(simp only [List.length_drop,List.length_take];rfl)) ?_
    with_reducible refine (impl_areLetters.calls (a0_0 ++ a0_1) true _ A3.out).mono ?_
    rintro e w14 ⟨rfl,hb⟩
    refine ⟨_,rfl,?_⟩
    replace BK222:=kb BK222 hb;replace HB:=bs HB hb;(try clear hb)
    refine hK.out _ _ ⟨(blk_cell BK222.out 0).trans rfl,(blk_cell BK222.out 1).trans rfl⟩ (fun hHeld=>?_)
    clear hK K
    refine norm_ (a':=?_) ?_ ?_
    rotate_left
    ·show Act.put _ (some 8) _ = _
     simp only [Act.put,sI,sZ,sS,i64_w,i32_w]
     rfl
    refine pure_ (i:=6) (N:=some 9) (v:=?_) (a':=?_) #[tT,tT,tT,tT,tT,tT,tT,fF,fF,fF,fF,fF,fF,fF,fF,fF,fF,fF,fF,fF,fF,fF,fF] rfl rfl (any_of HT_.out (by kernel_rfl)) (fun _ _ _ h=>h) (Or.inl ⟨by rfl,?_⟩) ?_ ?_
    rotate_left
    ·intro w'
     go_simp
     with_reducible rfl
    rotate_left
    ·simp only [Act.put,sI,sZ,sS,i64_w,i32_w]
     rfl
    refine pure_ (i:=7) (N:=some 10) (v:=?_) (a':=?_) #[tT,tT,tT,tT,tT,tT,tT,tT,fF,fF,fF,fF,fF,fF,fF,fF,fF,fF,fF,fF,fF,fF,fF] rfl rfl (any_of HT_.out (by kernel_rfl)) (fun _ _ _ h=>h) (Or.inl ⟨by rfl,?_⟩) ?_ ?_
    rotate_left
    ·intro w'
     go_simp
     with_reducible rfl
    rotate_left
    ·simp only [Act.put,sI,sZ,sS,i64_w,i32_w]
     rfl
    refine pure_ (i:=9) (N:=some 12) (v:=?_) (a':=?_) #[tT,tT,tT,tT,tT,tT,tT,tT,fF,tT,fF,fF,fF,fF,fF,fF,fF,fF,fF,fF,fF,fF,fF] rfl rfl (any_of HT_.out (by kernel_rfl)) (fun _ _ _ h=>h) (Or.inl ⟨by rfl,?_⟩) ?_ ?_
    rotate_left
    ·intro w'
     go_simp
     with_reducible rfl
    rotate_left
    ·simp only [Act.put,sI,sZ,sS,i64_w,i32_w]
     rfl
    refine take_ (i:=8) (N:=some 11) (v:=?_) (a':=?_) #[tT,tT,tT,tT,tT,tT,tT,tT,tT,tT,fF,fF,fF,fF,fF,fF,fF,fF,fF,fF,fF,fF,fF] rfl rfl (take_ofW HT_.out HW_.out (by kernel_rfl)) (fun _ _ _ h=>h) (Or.inl ⟨by rfl,?_⟩) hHeld ?_ ?_
    rotate_left
    ·rintro w' ⟨s0,s1⟩
     go_simp
     with_reducible rfl
    rotate_left
    ·simp only [Act.put,sI,sZ,sS,i64_w,i32_w]
     rfl
    refine take_ (i:=10) (N:=some 13) (v:=?_) (a':=?_) #[tT,tT,tT,tT,tT,tT,tT,tT,tT,tT,tT,fF,fF,fF,fF,fF,fF,fF,fF,fF,fF,fF,fF] rfl rfl (take_ofW HT_.out HW_.out (by kernel_rfl)) (fun _ _ _ h=>h) (Or.inl ⟨by rfl,?_⟩) hHeld ?_ ?_
    rotate_left
    ·rintro w' ⟨s0,s1⟩
     go_simp
     with_reducible rfl
    rotate_left
    ·simp only [Act.put,sI,sZ,sS,i64_w,i32_w]
     rfl
    refine one_ (i:=11) (N:=some 14) #[tT,tT,tT,tT,tT,tT,tT,tT,tT,tT,tT,tT,fF,fF,fF,fF,fF,fF,fF,fF,fF,fF,fF] rfl rfl (one_of HT_.out (by kernel_rfl)) (by decide) (fun K hK=>?_)
    refine goes_ Try.func41 (by kernel_rfl) rfl #[.string a0_0,.string a0_1] (by rfl) rfl rfl (by (try simp only [sM,sC,sN]);first|done|rfl|(simp only [List.length_drop,List.length_take];rfl)) ?_
    with_reducible refine (impl_areGiven.calls a0_0 a0_1 false _ A5.out).mono ?_
    rintro e w' ⟨rfl,⟨nd,rfl⟩⟩
    refine ⟨_,rfl,?_⟩
    refine hK.out _ _ ⟨(blk_cell BK222.out 0).trans rfl,(blk_cell BK222.out 1).trans rfl⟩ (fun hHeld=>?_)
    clear hK K
    refine norm_ (a':=?_) ?_ ?_
    rotate_left
    ·show Act.put _ (some 14) _ = _
     simp only [Act.put,sI,sZ,sS,i64_w,i32_w]
     rfl
    refine pure_ (i:=12) (N:=some 15) (v:=?_) (a':=?_) #[tT,tT,tT,tT,tT,tT,tT,tT,tT,tT,tT,tT,tT,fF,fF,fF,fF,fF,fF,fF,fF,fF,fF] rfl rfl (any_of HT_.out (by kernel_rfl)) (fun _ _ _ h=>h) (Or.inl ⟨by rfl,?_⟩) ?_ ?_
    rotate_left
    ·intro w'
     go_simp
     with_reducible rfl
    rotate_left
    ·simp only [Act.put,sI,sZ,sS,i64_w,i32_w]
     rfl
    refine pure_ (i:=13) (N:=some 16) (v:=?_) (a':=?_) #[tT,tT,tT,tT,tT,tT,tT,tT,tT,tT,tT,tT,tT,tT,fF,fF,fF,fF,fF,fF,fF,fF,fF] rfl rfl (any_of HT_.out (by kernel_rfl)) (fun _ _ _ h=>h) (Or.inl ⟨by rfl,?_⟩) ?_ ?_
    rotate_left
    ·intro w'
     go_simp
     with_reducible rfl
    rotate_left
    ·simp only [Act.put,sI,sZ,sS,i64_w,i32_w]
     rfl
    refine pure_ (i:=14) (N:=some 17) (v:=undef) (a':=?_) #[tT,tT,tT,tT,tT,tT,tT,tT,tT,tT,tT,tT,tT,tT,tT,fF,fF,fF,fF,fF,fF,fF,fF] rfl rfl (any_of HT_.out (by kernel_rfl)) (fun _ _ _ h=>h) (Or.inr ⟨by rfl,rfl⟩) ?_ ?_
    rotate_left
    ·simp only [Act.put,sI,sZ,sS,i64_w,i32_w]
     rfl
    refine pure_ (i:=15) (N:=some 18) (v:=undef) (a':=?_) #[tT,tT,tT,tT,tT,tT,tT,tT,tT,tT,tT,tT,tT,tT,tT,tT,fF,fF,fF,fF,fF,fF,fF] rfl rfl (any_of HT_.out (by kernel_rfl)) (fun _ _ _ h=>h) (Or.inr ⟨by rfl,rfl⟩) ?_ ?_
    rotate_left
    ·simp only [Act.put,sI,sZ,sS,i64_w,i32_w]
     rfl
    refine pure_ (i:=16) (N:=some 19) (v:=undef) (a':=?_) #[tT,tT,tT,tT,tT,tT,tT,tT,tT,tT,tT,tT,tT,tT,tT,tT,tT,fF,fF,fF,fF,fF,fF] rfl rfl (any_of HT_.out (by kernel_rfl)) (fun _ _ _ h=>h) (Or.inr ⟨by rfl,rfl⟩) ?_ ?_
    rotate_left
    ·simp only [Act.put,sI,sZ,sS,i64_w,i32_w]
     rfl
    refine pure_ (i:=17) (N:=some 20) (v:=undef) (a':=?_) #[tT,tT,tT,tT,tT,tT,tT,tT,tT,tT,tT,tT,tT,tT,tT,tT,tT,tT,fF,fF,fF,fF,fF] rfl rfl (any_of HT_.out (by kernel_rfl)) (fun _ _ _ h=>h) (Or.inr ⟨by rfl,rfl⟩) ?_ ?_
    rotate_left
    ·simp only [Act.put,sI,sZ,sS,i64_w,i32_w]
     rfl
    refine pure_ (i:=18) (N:=some 21) (v:=undef) (a':=?_) #[tT,tT,tT,tT,tT,tT,tT,tT,tT,tT,tT,tT,tT,tT,tT,tT,tT,tT,tT,fF,fF,fF,fF] rfl rfl (any_of HT_.out (by kernel_rfl)) (fun _ _ _ h=>h) (Or.inr ⟨by rfl,rfl⟩) ?_ ?_
    rotate_left
    ·simp only [Act.put,sI,sZ,sS,i64_w,i32_w]
     rfl
    refine pure_ (i:=19) (N:=some 22) (v:=undef) (a':=?_) #[tT,tT,tT,tT,tT,tT,tT,tT,tT,tT,tT,tT,tT,tT,tT,tT,tT,tT,tT,tT,fF,fF,fF] rfl rfl (any_of HT_.out (by kernel_rfl)) (fun _ _ _ h=>h) (Or.inr ⟨by rfl,rfl⟩) ?_ ?_
    rotate_left
    ·simp only [Act.put,sI,sZ,sS,i64_w,i32_w]
     rfl
    refine pure_ (i:=20) (N:=some 23) (v:=undef) (a':=?_) #[tT,tT,tT,tT,tT,tT,tT,tT,tT,tT,tT,tT,tT,tT,tT,tT,tT,tT,tT,tT,tT,fF,fF] rfl rfl (any_of HT_.out (by kernel_rfl)) (fun _ _ _ h=>h) (Or.inr ⟨by rfl,rfl⟩) ?_ ?_
    rotate_left
    ·simp only [Act.put,sI,sZ,sS,i64_w,i32_w]
     rfl
    refine pure_ (i:=21) (N:=some 24) (v:=?_) (a':=?_) #[tT,tT,tT,tT,tT,tT,tT,tT,tT,tT,tT,tT,tT,tT,tT,tT,tT,tT,tT,tT,tT,tT,fF] rfl rfl (any_of HT_.out (by kernel_rfl)) (fun _ _ _ h=>h) (Or.inl ⟨by rfl,?_⟩) ?_ ?_
    rotate_left
    ·intro w'
     go_simp
     with_reducible rfl
    rotate_left
    ·simp only [Act.put,sI,sZ,sS,i64_w,i32_w]
     rfl
    refine pure_ (i:=22) (N:=some 2) (v:=?_) (a':=?_) #[tT,tT,tT,tT,tT,tT,tT,tT,tT,tT,tT,tT,tT,tT,tT,tT,tT,tT,tT,tT,tT,tT,tT] rfl rfl (any_of HT_.out (by kernel_rfl)) (fun _ _ _ h=>h) (Or.inl ⟨by rfl,?_⟩) ?_ ?_
    rotate_left
    ·intro w'
     go_simp
     with_reducible rfl
    rotate_left
    ·simp only [Act.put,sI,sZ,sS,i64_w,i32_w]
     rfl
    refine done_ (done_of HT_.out (by kernel_rfl)) ?_
    try go_wp2
    go_ret
    exact ⟨by first|rfl|(simp [errW_none,errW_some] <;> rfl)|(simp [*,errW_none,errW_some] <;> rfl),bb HB⟩
  ·replace c4:=Bool.eq_false_iff.mpr c4
   subst c4
   have H1:(some false) = some r:=by rw [if_neg (show ¬ (false = true) by decide)] at H;exact H
   clear H
   have H:=H1
   clear H1
   obtain rfl:=Option.some.inj H
   go_enter Try.func32,Try.ntmps32
   try go_wp2_with (first|((with_reducible refine gate_dst (N:=1) rfl ?_);refine box_event ?hg (N:=1) ?hd (cs:=#[.string a0_0,.string a0_1]) (t:=27) ?hr ?_;(case hd=>rfl);(case hg=>rfl);(case hr=>first|(go_simp;done)|(go_simp;rfl));intro gb222 hg w15 hbox hb;have BK222:=aM (hbox);have GW222:=wl hg HB;have GE222:=wl hg HB;replace HB:=bs HB hb;clear hb hbox hg))
   replace BK222:=aM (yD BK222.out);replace HB:=aM (zD HB.out)
   refine start_ (n:=23) (S:=fun w'=>w'.cell? ⟨gb222,0,none⟩ = some (.string a0_0) ∧ w'.cell? ⟨gb222,1,none⟩ = some (.string a0_1)) (ds:=[]) #[fF,fF,fF,fF,fF,fF,fF,fF,fF,fF,fF,fF,fF,fF,fF,fF,fF,fF,fF,fF,fF,fF,fF] (by kernel_rfl) rfl rfl ⟨(blk_cell BK222.out 0).trans rfl,(blk_cell BK222.out 1).trans rfl⟩ (fun hHeld=>?_);refine with_tabW impl_IsSequence.tab1 impl_IsSequence.bits1 (fun HT_ HW_=>?_)
   generalize w15.drew = w16 at BK222 HB hHeld ⊢
   refine pure_ (i:=0) (N:=some 3) (v:=?_) (a':=?_) #[tT,fF,fF,fF,fF,fF,fF,fF,fF,fF,fF,fF,fF,fF,fF,fF,fF,fF,fF,fF,fF,fF,fF] rfl rfl (any_of HT_.out (by kernel_rfl)) (fun _ _ _ h=>h) (Or.inl ⟨by rfl,?_⟩) ?_ ?_
   rotate_left
   ·intro w'
    go_simp
    with_reducible rfl
   rotate_left
   ·simp only [Act.put,sI,sZ,sS,i64_w,i32_w]
    rfl
   refine pure_ (i:=2) (N:=some 5) (v:=?_) (a':=?_) #[tT,fF,tT,fF,fF,fF,fF,fF,fF,fF,fF,fF,fF,fF,fF,fF,fF,fF,fF,fF,fF,fF,fF] rfl rfl (any_of HT_.out (by kernel_rfl)) (fun _ _ _ h=>h) (Or.inl ⟨by rfl,?_⟩) ?_ ?_
   rotate_left
   ·intro w'
    go_simp
    with_reducible rfl
   rotate_left
   ·simp only [Act.put,sI,sZ,sS,i64_w,i32_w]
    rfl
   refine take_ (i:=1) (N:=some 4) (v:=?_) (a':=?_) #[tT,tT,tT,fF,fF,fF,fF,fF,fF,fF,fF,fF,fF,fF,fF,fF,fF,fF,fF,fF,fF,fF,fF] rfl rfl (take_ofW HT_.out HW_.out (by kernel_rfl)) (fun _ _ _ h=>h) (Or.inl ⟨by rfl,?_⟩) hHeld ?_ ?_
   rotate_left
   ·rintro w' ⟨s0,s1⟩
    go_simp
    with_reducible rfl
   rotate_left
   ·simp only [Act.put,sI,sZ,sS,i64_w,i32_w]
    rfl
   refine take_ (i:=3) (N:=some 6) (v:=?_) (a':=?_) #[tT,tT,tT,tT,fF,fF,fF,fF,fF,fF,fF,fF,fF,fF,fF,fF,fF,fF,fF,fF,fF,fF,fF] rfl rfl (take_ofW HT_.out HW_.out (by kernel_rfl)) (fun _ _ _ h=>h) (Or.inl ⟨by rfl,?_⟩) hHeld ?_ ?_
   rotate_left
   ·rintro w' ⟨s0,s1⟩
    go_simp
    with_reducible rfl
   rotate_left
   ·simp only [Act.put,sI,sZ,sS,i64_w,i32_w]
    rfl
   refine pure_ (i:=4) (N:=some 7) (v:=?_) (a':=?_) #[tT,tT,tT,tT,tT,fF,fF,fF,fF,fF,fF,fF,fF,fF,fF,fF,fF,fF,fF,fF,fF,fF,fF] rfl rfl (any_of HT_.out (by kernel_rfl)) (fun _ _ _ h=>h) (Or.inl ⟨by rfl,?_⟩) ?_ ?_
   rotate_left
   ·intro w'
    go_simp
    with_reducible rfl
   rotate_left
   ·simp only [Act.put,sI,sZ,sS,i64_w,i32_w]
    rfl
   refine one_ (i:=5) (N:=some 8) #[tT,tT,tT,tT,tT,tT,fF,fF,fF,fF,fF,fF,fF,fF,fF,fF,fF,fF,fF,fF,fF,fF,fF] rfl rfl (one_of HT_.out (by kernel_rfl)) (by decide) (fun K hK=>?_)
   refine goes_ Try.func40 (by kernel_rfl) rfl #[.string (a0_0 ++ a0_1)] (by rfl) rfl rfl (by (try simp only [sM,sC,sN]);first|done|rfl|(simp only [List.length_drop,List.length_take];rfl)) ?_
   with_reducible refine (impl_areLetters.calls (a0_0 ++ a0_1) false _ A3.out).mono ?_
   rintro e w17 ⟨rfl,hb⟩
   refine ⟨_,rfl,?_⟩
   replace BK222:=kb BK222 hb;replace HB:=bs HB hb;(try clear hb)
   refine hK.out _ _ ⟨(blk_cell BK222.out 0).trans rfl,(blk_cell BK222.out 1).trans rfl⟩ (fun hHeld=>?_)
   clear hK K
   refine norm_ (a':=?_) ?_ ?_
   rotate_left
   ·show Act.put _ (some 8) _ = _
    simp only [Act.put,sI,sZ,sS,i64_w,i32_w]
    rfl
   refine pure_ (i:=6) (N:=some 9) (v:=?_) (a':=?_) #[tT,tT,tT,tT,tT,tT,tT,fF,fF,fF,fF,fF,fF,fF,fF,fF,fF,fF,fF,fF,fF,fF,fF] rfl rfl (any_of HT_.out (by kernel_rfl)) (fun _ _ _ h=>h) (Or.inl ⟨by rfl,?_⟩) ?_ ?_
   rotate_left
   ·intro w'
    go_simp
    with_reducible rfl
   rotate_left
   ·simp only [Act.put,sI,sZ,sS,i64_w,i32_w]
    rfl
   refine pure_ (i:=7) (N:=some 10) (v:=undef) (a':=?_) #[tT,tT,tT,tT,tT,tT,tT,tT,fF,fF,fF,fF,fF,fF,fF,fF,fF,fF,fF,fF,fF,fF,fF] rfl rfl (any_of HT_.out (by kernel_rfl)) (fun _ _ _ h=>h) (Or.inr ⟨by rfl,rfl⟩) ?_ ?_
   rotate_left
   ·simp only [Act.put,sI,sZ,sS,i64_w,i32_w]
    rfl
   refine pure_ (i:=8) (N:=some 11) (v:=undef) (a':=?_) #[tT,tT,tT,tT,tT,tT,tT,tT,tT,fF,fF,fF,fF,fF,fF,fF,fF,fF,fF,fF,fF,fF,fF] rfl rfl (any_of HT_.out (by kernel_rfl)) (fun _ _ _ h=>h) (Or.inr ⟨by rfl,rfl⟩) ?_ ?_
   rotate_left
   ·simp only [Act.put,sI,sZ,sS,i64_w,i32_w]
    rfl
   refine pure_ (i:=9) (N:=some 12) (v:=undef) (a':=?_) #[tT,tT,tT,tT,tT,tT,tT,tT,tT,tT,fF,fF,fF,fF,fF,fF,fF,fF,fF,fF,fF,fF,fF] rfl rfl (any_of HT_.out (by kernel_rfl)) (fun _ _ _ h=>h) (Or.inr ⟨by rfl,rfl⟩) ?_ ?_
   rotate_left
   ·simp only [Act.put,sI,sZ,sS,i64_w,i32_w]
    rfl
   refine pure_ (i:=10) (N:=some 13) (v:=undef) (a':=?_) #[tT,tT,tT,tT,tT,tT,tT,tT,tT,tT,tT,fF,fF,fF,fF,fF,fF,fF,fF,fF,fF,fF,fF] rfl rfl (any_of HT_.out (by kernel_rfl)) (fun _ _ _ h=>h) (Or.inr ⟨by rfl,rfl⟩) ?_ ?_
   rotate_left
   ·simp only [Act.put,sI,sZ,sS,i64_w,i32_w]
    rfl
   refine pure_ (i:=11) (N:=some 14) (v:=undef) (a':=?_) #[tT,tT,tT,tT,tT,tT,tT,tT,tT,tT,tT,tT,fF,fF,fF,fF,fF,fF,fF,fF,fF,fF,fF] rfl rfl (any_of HT_.out (by kernel_rfl)) (fun _ _ _ h=>h) (Or.inr ⟨by rfl,rfl⟩) ?_ ?_
   rotate_left
   ·simp only [Act.put,sI,sZ,sS,i64_w,i32_w]
    rfl
   refine pure_ (i:=12) (N:=some 15) (v:=?_) (a':=?_) #[tT,tT,tT,tT,tT,tT,tT,tT,tT,tT,tT,tT,tT,fF,fF,fF,fF,fF,fF,fF,fF,fF,fF] rfl rfl (any_of HT_.out (by kernel_rfl)) (fun _ _ _ h=>h) (Or.inl ⟨by rfl,?_⟩) ?_ ?_
   rotate_left
   ·intro w'
    go_simp
    with_reducible rfl
   rotate_left
   ·simp only [Act.put,sI,sZ,sS,i64_w,i32_w]
    rfl
   refine pure_ (i:=13) (N:=some 16) (v:=?_) (a':=?_) #[tT,tT,tT,tT,tT,tT,tT,tT,tT,tT,tT,tT,tT,tT,fF,fF,fF,fF,fF,fF,fF,fF,fF] rfl rfl (any_of HT_.out (by kernel_rfl)) (fun _ _ _ h=>h) (Or.inl ⟨by rfl,?_⟩) ?_ ?_
   rotate_left
   ·intro w'
    go_simp
    with_reducible rfl
   rotate_left
   ·simp only [Act.put,sI,sZ,sS,i64_w,i32_w]
    rfl
   refine pure_ (i:=14) (N:=some 17) (v:=undef) (a':=?_) #[tT,tT,tT,tT,tT,tT,tT,tT,tT,tT,tT,tT,tT,tT,tT,fF,fF,fF,fF,fF,fF,fF,fF] rfl rfl (any_of HT_.out (by kernel_rfl)) (fun _ _ _ h=>h) (Or.inr ⟨by rfl,rfl⟩) ?_ ?_
   rotate_left
   ·simp only [Act.put,sI,sZ,sS,i64_w,i32_w]
    rfl
   refine pure_ (i:=15) (N:=some 18) (v:=undef) (a':=?_) #[tT,tT,tT,tT,tT,tT,tT,tT,tT,tT,tT,tT,tT,tT,tT,tT,fF,fF,fF,fF,fF,fF,fF] rfl rfl (any_of HT_.out (by kernel_rfl)) (fun _ _ _ h=>h) (Or.inr ⟨by rfl,rfl⟩) ?_ ?_
   rotate_left
   ·simp only [Act.put,sI,sZ,sS,i64_w,i32_w]
    rfl
   refine pure_ (i:=16) (N:=some 19) (v:=undef) (a':=?_) #[tT,tT,tT,tT,tT,tT,tT,tT,tT,tT,tT,tT,tT,tT,tT,tT,tT,fF,fF,fF,fF,fF,fF] rfl rfl (any_of HT_.out (by kernel_rfl)) (fun _ _ _ h=>h) (Or.inr ⟨by rfl,rfl⟩) ?_ ?_
   rotate_left
   ·simp only [Act.put,sI,sZ,sS,i64_w,i32_w]
    rfl
   refine pure_ (i:=17) (N:=some 20) (v:=undef) (a':=?_) #[tT,tT,tT,tT,tT,tT,tT,tT,tT,tT,tT,tT,tT,tT,tT,tT,tT,tT,fF,fF,fF,fF,fF] rfl rfl (any_of HT_.out (by kernel_rfl)) (fun _ _ _ h=>h) (Or.inr ⟨by rfl,rfl⟩) ?_ ?_
   rotate_left
   ·simp only [Act.put,sI,sZ,sS,i64_w,i32_w]
    rfl
   refine pure_ (i:=18) (N:=some 21) (v:=undef) (a':=?_) #[tT,tT,tT,tT,tT,tT,tT,tT,tT,tT,tT,tT,tT,tT,tT,tT,tT,tT,tT,fF,fF,fF,fF] rfl rfl (any_of HT_.out (by kernel_rfl)) (fun _ _ _ h=>h) (Or.inr ⟨by rfl,rfl⟩) ?_ ?_
   rotate_left
   ·simp only [Act.put,sI,sZ,sS,i64_w,i32_w]
    rfl
   refine pure_ (i:=19) (N:=some 22) (v:=undef) (a':=?_) #[tT,tT,tT,tT,tT,tT,tT,tT,tT,tT,tT,tT,tT,tT,tT,tT,tT,tT,tT,tT,fF,fF,fF] rfl rfl (any_of HT_.out (by kernel_rfl)) (fun _ _ _ h=>h) (Or.inr ⟨by rfl,rfl⟩) ?_ ?_
   rotate_left
   ·simp only [Act.put,sI,sZ,sS,i64_w,i32_w]
    rfl
   refine pure_ (i:=20) (N:=some 23) (v:=undef) (a':=?_) #[tT,tT,tT,tT,tT,tT,tT,tT,tT,tT,tT,tT,tT,tT,tT,tT,tT,tT,tT,tT,tT,fF,fF] rfl rfl (any_of HT_.out (by kernel_rfl)) (fun _ _ _ h=>h) (Or.inr ⟨by rfl,rfl⟩) ?_ ?_
   rotate_left
   ·simp only [Act.put,sI,sZ,sS,i64_w,i32_w]
    rfl
   refine pure_ (i:=21) (N:=some 24) (v:=?_) (a':=?_) #[tT,tT,tT,tT,tT,tT,tT,tT,tT,tT,tT,tT,tT,tT,tT,tT,tT,tT,tT,tT,tT,tT,fF] rfl rfl (any_of HT_.out (by kernel_rfl)) (fun _ _ _ h=>h) (Or.inl ⟨by rfl,?_⟩) ?_ ?_
   rotate_left
   ·intro w'
    go_simp
    with_reducible rfl
   rotate_left
   ·simp only [Act.put,sI,sZ,sS,i64_w,i32_w]
    rfl
   refine pure_ (i:=22) (N:=some 2) (v:=?_) (a':=?_) #[tT,tT,tT,tT,tT,tT,tT,tT,tT,tT,tT,tT,tT,tT,tT,tT,tT,tT,tT,tT,tT,tT,tT] rfl rfl (any_of HT_.out (by kernel_rfl)) (fun _ _ _ h=>h) (Or.inl ⟨by rfl,?_⟩) ?_ ?_
   rotate_left
   ·intro w'
    go_simp
    with_reducible rfl
   rotate_left
   ·simp only [Act.put,sI,sZ,sS,i64_w,i32_w]
    rfl
   refine done_ (done_of HT_.out (by kernel_rfl)) ?_
   try go_wp2
   go_ret
   exact ⟨by first|rfl|(simp [errW_none,errW_some] <;> rfl)|(simp [*,errW_none,errW_some] <;> rfl),bb HB⟩
 ·rw [if_neg c2] at H
  exact absurd H (by simp)
end Go.Proofs.Ytbiehbmojbmnoaa.Q
end
section
namespace Go.Proofs.Ytbiehbmojbmnoaa.Q
open Go.Proofs.YtbiehbmojbmnoaaW.Ext
open Go.RowKit Go.Proofs.YtbiehbmojbmnoaaW.PrintWords Go.Proofs.YtbiehbmojbmnoaaW.PrintLast Go.Proofs.YtbiehbmojbmnoaaW.PrintMore
attribute [local go_sem] max2_int min2_int max_two min_two max_three min_three max_four min_four   -- for this text's walks alone
set_option linter.unusedVariables false
set_option linter.unusedSimpArgs false
def strings_IndexByte.f (a0:ByteArray) (a1:Int):Option Int:=if 0 ≤ a1 then some (Lib.indexByte a0.data.toList a1.toNat.toUInt8) else none
theorem strings_IndexByte.calls (a0:ByteArray) (a1:Int) (r:Int) (w:World) (h:strings_IndexByte.f a0 a1 = some r) :
  Calls Try.prog 44 #[.string a0,.int .u8 a1] w fun e w'=>e = .returned (.int .i64 r) ∧ Below w.heap.size w w':=by
 unfold strings_IndexByte.f at h
 split at h
 ·rename_i hc
  obtain rfl:=Option.some.inj h
  exact (Try.strings_IndexByte a0 a1 w).mono fun e w' ⟨he,hw⟩=>⟨he,by rw [hw];exact Below.refl _ _⟩
 ·cases h
def impl_Sequence_isStar.f (a0_0:ByteArray) (a0_1:ByteArray):Option (Bool):=if a0_0.toList = ([]:List UInt8) then ((strings_IndexByte.f a0_1 42).bind fun t228=>(if t228 = (wrap64 ((a0_1.size:Int) - 1)) then (if (a0_1.size:Int) = 1 then (some true) else (if 0 < (a0_1.size:Int) then (some ((bt a0_1 0) == 49)) else (none))) else (some false))) else (some false)
def impl_Sequence_isStar.T1:Bool × List (List Nat × List Nat):=(true,[([],[]),([0],[0]),([1],[1]),([2],[2]),([3],[3]),([4,3],[3,4]),([5,3,3],[3,5]),([3],[3]),([7,3],[3,7]),([8,3],[3,8]),([9,3],[3,9]),([6,10,3],[3,6,10]),([3,11],[3,11]),([12,6],[12]),([13],[13]),([14,13],[13,14]),([15,13],[13,15]),([16,13],[13,16]),([17,13,13],[13,17]),([18],[18]),([19,18],[18,19]),([20,18],[18,20]),([21,18],[18,21]),([18,22,13],[13,18,22]),([13,23],[13,23]),([24,18,0,1,2,3,4,5,6,7,8,9,10,11,12,13,14,15,16,17,18,19,20,21,22,23,24],[24])])
def impl_Sequence_isStar.B1:List Nat:=[0,1,3,7,15,31,63,15,143,399,911,2047,4095,8191,16383,32767,65535,131071,262143,524287,1048575,2097151,4194303,8388607,16777215,33554431]
theorem impl_Sequence_isStar.tab1:rtab .any (opsOf Try.f34 1) = impl_Sequence_isStar.T1:=by kernel_rfl
theorem impl_Sequence_isStar.bits1:waitsOk impl_Sequence_isStar.T1.2 impl_Sequence_isStar.B1 = true:=by kernel_rfl
set_option maxHeartbeats 8000000 in
set_option maxRecDepth 100000 in
theorem impl_Sequence_isStar.calls (a0_0:ByteArray) (a0_1:ByteArray) (r:Bool) (w:World) (h:impl_Sequence_isStar.f a0_0 a0_1 = some r) :
  Calls Try.prog 34 #[.agg #[.string a0_0,.string a0_1]] w fun e w'=>e = .returned (.bool r) ∧ Below w.heap.size w w':=by
 have hu27:=Try.underlying27
 have HB:=aM (Below.refl w.heap.size w)
 have H:(if a0_0.toList = ([]:List UInt8) then ((strings_IndexByte.f a0_1 42).bind fun t228=>(if t228 = (wrap64 ((a0_1.size:Int) - 1)) then (if (a0_1.size:Int) = 1 then (some true) else (if 0 < (a0_1.size:Int) then (some ((bt a0_1 0) == 49)) else (none))) else (some false))) else (some false)) = some r:=h
 clear h
 by_cases c2:a0_0.toList = ([]:List UInt8)
 ·rw [if_pos c2] at H
  have c2b0:(a0_0.toList == ([]:List UInt8)) = true:=beq_iff_eq.mpr c2
  have c2b1:(a0_0.toList != ([]:List UInt8)) = false:=bne_eq_false_iff_eq.mpr c2
  clear c2
  replace H:=Option.bind_eq_some_iff.mp H
  obtain ⟨t228,A30,H⟩:=H
  replace H:(if t228 = (wrap64 ((a0_1.size:Int) - 1)) then (if (a0_1.size:Int) = 1 then (some true) else (if 0 < (a0_1.size:Int) then (some ((bt a0_1 0) == 49)) else (none))) else (some false)) = some r:=H;have A3:=aM A30
  clear A30
  by_cases c4:t228 = (wrap64 ((a0_1.size:Int) - 1))
  ·rw [if_pos c4] at H
   have c4b0:(t228 == (wrap64 ((a0_1.size:Int) - 1))) = true:=beq_iff_eq.mpr c4
   have c4b1:(t228 != (wrap64 ((a0_1.size:Int) - 1))) = false:=bne_eq_false_iff_eq.mpr c4
   clear c4
   by_cases c5:(a0_1.size:Int) = 1
   ·rw [if_pos c5] at H
    have c5b0:((a0_1.size:Int) == 1) = true:=beq_iff_eq.mpr c5
    have c5b1:((a0_1.size:Int) != 1) = false:=bne_eq_false_iff_eq.mpr c5
    clear c5
    obtain rfl:=Option.some.inj H
    go_enter Try.func34,Try.ntmps34
    try go_wp2_with (first|((with_reducible refine gate_dst (N:=1) rfl ?_);(try (refine gate_guard (by rfl) ?_;dsimp only));refine box_event ?hg (N:=1) ?hd (cs:=#[.string a0_0,.string a0_1]) (t:=27) ?hr ?_;(case hd=>rfl);(case hg=>rfl);(case hr=>first|(go_simp;done)|(go_simp;rfl));intro gb227 hg w6 hbox hb;have BK227:=aM (hbox);have GW227:=wl hg HB;have GE227:=wl hg HB;replace HB:=bs HB hb;clear hb hbox hg))
    replace BK227:=aM (yD BK227.out);replace HB:=aM (zD HB.out)
    refine start_ (n:=26) (S:=fun w'=>w'.cell? ⟨gb227,0,none⟩ = some (.string a0_0) ∧ w'.cell? ⟨gb227,1,none⟩ = some (.string a0_1)) (ds:=[]) #[fF,fF,fF,fF,fF,fF,fF,fF,fF,fF,fF,fF,fF,fF,fF,fF,fF,fF,fF,fF,fF,fF,fF,fF,fF,fF] (by kernel_rfl) rfl rfl ⟨(blk_cell BK227.out 0).trans rfl,(blk_cell BK227.out 1).trans rfl⟩ (fun hHeld=>?_);refine with_tabW impl_Sequence_isStar.tab1 impl_Sequence_isStar.bits1 (fun HT_ HW_=>?_)
    generalize w6.drew = w7 at BK227 HB hHeld ⊢
    refine pure_ (i:=0) (N:=some 3) (v:=?_) (a':=?_) #[tT,fF,fF,fF,fF,fF,fF,fF,fF,fF,fF,fF,fF,fF,fF,fF,fF,fF,fF,fF,fF,fF,fF,fF,fF,fF] rfl rfl (any_of HT_.out (by kernel_rfl)) (fun _ _ _ h=>h) (Or.inl ⟨by rfl,?_⟩) ?_ ?_
    rotate_left
    ·intro w'
     go_simp
     with_reducible rfl
    rotate_left
    ·simp only [Act.put,sI,sZ,sS,i64_w,i32_w]
     rfl
    refine take_ (i:=1) (N:=some 4) (v:=?_) (a':=?_) #[tT,tT,fF,fF,fF,fF,fF,fF,fF,fF,fF,fF,fF,fF,fF,fF,fF,fF,fF,fF,fF,fF,fF,fF,fF,fF] rfl rfl (take_ofW HT_.out HW_.out (by kernel_rfl)) (fun _ _ _ h=>h) (Or.inl ⟨by rfl,?_⟩) hHeld ?_ ?_
    rotate_left
    ·rintro w' ⟨s0,s1⟩
     go_simp
     with_reducible rfl
    rotate_left
    ·simp only [Act.put,sI,sZ,sS,i64_w,i32_w]
     rfl
    refine pure_ (i:=2) (N:=some 5) (v:=?_) (a':=?_) #[tT,tT,tT,fF,fF,fF,fF,fF,fF,fF,fF,fF,fF,fF,fF,fF,fF,fF,fF,fF,fF,fF,fF,fF,fF,fF] rfl rfl (any_of HT_.out (by kernel_rfl)) (fun _ _ _ h=>h) (Or.inl ⟨by rfl,?_⟩) ?_ ?_
    rotate_left
    ·intro w'
     go_simp
     with_reducible rfl
    rotate_left
    ·simp only [Act.put,sI,sZ,sS,i64_w,i32_w]
     rfl
    refine pure_ (i:=3) (N:=some 6) (v:=?_) (a':=?_) #[tT,tT,tT,tT,fF,fF,fF,fF,fF,fF,fF,fF,fF,fF,fF,fF,fF,fF,fF,fF,fF,fF,fF,fF,fF,fF] rfl rfl (any_of HT_.out (by kernel_rfl)) (fun _ _ _ h=>h) (Or.inl ⟨by rfl,?_⟩) ?_ ?_
    rotate_left
    ·intro w'
     go_simp
     with_reducible rfl
    rotate_left
    ·simp only [Act.put,sI,sZ,sS,i64_w,i32_w]
     rfl
    refine pure_ (i:=4) (N:=some 7) (v:=?_) (a':=?_) #[tT,tT,tT,tT,tT,fF,fF,fF,fF,fF,fF,fF,fF,fF,fF,fF,fF,fF,fF,fF,fF,fF,fF,fF,fF,fF] rfl rfl (any_of HT_.out (by kernel_rfl)) (fun _ _ _ h=>h) (Or.inl ⟨by rfl,?_⟩) ?_ ?_
    rotate_left
    ·intro w'
     go_simp
     with_reducible rfl
    rotate_left
    ·simp only [Act.put,sI,sZ,sS,i64_w,i32_w]
     rfl
    refine pure_ (i:=7) (N:=some 10) (v:=?_) (a':=?_) #[tT,tT,tT,tT,tT,fF,fF,tT,fF,fF,fF,fF,fF,fF,fF,fF,fF,fF,fF,fF,fF,fF,fF,fF,fF,fF] rfl rfl (any_of HT_.out (by kernel_rfl)) (fun _ _ _ h=>h) (Or.inl ⟨by rfl,?_⟩) ?_ ?_
    rotate_left
    ·intro w'
     go_simp
     with_reducible rfl
    rotate_left
    ·simp only [Act.put,sI,sZ,sS,i64_w,i32_w]
     rfl
    refine take_ (i:=5) (N:=some 8) (v:=?_) (a':=?_) #[tT,tT,tT,tT,tT,tT,fF,tT,fF,fF,fF,fF,fF,fF,fF,fF,fF,fF,fF,fF,fF,fF,fF,fF,fF,fF] rfl rfl (take_ofW HT_.out HW_.out (by kernel_rfl)) (fun _ _ _ h=>h) (Or.inl ⟨by rfl,?_⟩) hHeld ?_ ?_
    rotate_left
    ·rintro w' ⟨s0,s1⟩
     go_simp
     with_reducible rfl
    rotate_left
    ·simp only [Act.put,sI,sZ,sS,i64_w,i32_w]
     rfl
    refine take_ (i:=8) (N:=some 11) (v:=?_) (a':=?_) #[tT,tT,tT,tT,tT,tT,fF,tT,tT,fF,fF,fF,fF,fF,fF,fF,fF,fF,fF,fF,fF,fF,fF,fF,fF,fF] rfl rfl (take_ofW HT_.out HW_.out (by kernel_rfl)) (fun _ _ _ h=>h) (Or.inl ⟨by rfl,?_⟩) hHeld ?_ ?_
    rotate_left
    ·rintro w' ⟨s0,s1⟩
     go_simp
     with_reducible rfl
    rotate_left
    ·simp only [Act.put,sI,sZ,sS,i64_w,i32_w]
     rfl
    refine pure_ (i:=9) (N:=some 12) (v:=?_) (a':=?_) #[tT,tT,tT,tT,tT,tT,fF,tT,tT,tT,fF,fF,fF,fF,fF,fF,fF,fF,fF,fF,fF,fF,fF,fF,fF,fF] rfl rfl (any_of HT_.out (by kernel_rfl)) (fun _ _ _ h=>h) (Or.inl ⟨by rfl,?_⟩) ?_ ?_
    rotate_left
    ·intro w'
     go_simp
     with_reducible rfl
    rotate_left
    ·simp only [Act.put,sI,sZ,sS,i64_w,i32_w]
     rfl
    refine pure_ (i:=10) (N:=some 13) (v:=?_) (a':=?_) #[tT,tT,tT,tT,tT,tT,fF,tT,tT,tT,tT,fF,fF,fF,fF,fF,fF,fF,fF,fF,fF,fF,fF,fF,fF,fF] rfl rfl (any_of HT_.out (by kernel_rfl)) (fun _ _ _ h=>h) (Or.inl ⟨by rfl,?_⟩) ?_ ?_
    rotate_left
    ·intro w'
     go_simp
     with_reducible rfl
    rotate_left
    ·simp only [Act.put,sI,sZ,sS,i64_w,i32_w]
     rfl
    refine one_ (i:=6) (N:=some 9) #[tT,tT,tT,tT,tT,tT,tT,tT,tT,tT,tT,fF,fF,fF,fF,fF,fF,fF,fF,fF,fF,fF,fF,fF,fF,fF] rfl rfl (one_of HT_.out (by kernel_rfl)) (by decide) (fun K hK=>?_)
    refine goes_ Try.func44 (by kernel_rfl) rfl #[.string a0_1,.int .u8 42] (by rfl) rfl rfl (by (try simp only [sM,sC,sN]);first|done|rfl|(simp only [List.length_drop,List.length_take];rfl)) ?_
    with_reducible refine (strings_IndexByte.calls a0_1 42 t228 _ A3.out).mono ?_
    rintro e w8 ⟨rfl,hb⟩
    refine ⟨_,rfl,?_⟩
    replace BK227:=kb BK227 hb;replace HB:=bs HB hb;(try clear hb)
    refine hK.out _ _ ⟨(blk_cell BK227.out 0).trans rfl,(blk_cell BK227.out 1).trans rfl⟩ (fun hHeld=>?_)
    clear hK K
    refine norm_ (a':=?_) ?_ ?_
    rotate_left
    ·show Act.put _ (some 9) _ = _
     simp only [Act.put,sI,sZ,sS,i64_w,i32_w]
     rfl
    refine pure_ (i:=11) (N:=some 14) (v:=?_) (a':=?_) #[tT,tT,tT,tT,tT,tT,tT,tT,tT,tT,tT,tT,fF,fF,fF,fF,fF,fF,fF,fF,fF,fF,fF,fF,fF,fF] rfl rfl (any_of HT_.out (by kernel_rfl)) (fun _ _ _ h=>h) (Or.inl ⟨by rfl,?_⟩) ?_ ?_
    rotate_left
    ·intro w'
     go_simp
     with_reducible rfl
    rotate_left
    ·simp only [Act.put,sI,sZ,sS,i64_w,i32_w]
     rfl
    refine pure_ (i:=12) (N:=some 15) (v:=?_) (a':=?_) #[tT,tT,tT,tT,tT,tT,tT,tT,tT,tT,tT,tT,tT,fF,fF,fF,fF,fF,fF,fF,fF,fF,fF,fF,fF,fF] rfl rfl (any_of HT_.out (by kernel_rfl)) (fun _ _ _ h=>h) (Or.inl ⟨by rfl,?_⟩) ?_ ?_
    rotate_left
    ·intro w'
     go_simp
     with_reducible rfl
    rotate_left
    ·simp only [Act.put,sI,sZ,sS,i64_w,i32_w]
     rfl
    refine pure_ (i:=13) (N:=some 16) (v:=?_) (a':=?_) #[tT,tT,tT,tT,tT,tT,tT,tT,tT,tT,tT,tT,tT,tT,fF,fF,fF,fF,fF,fF,fF,fF,fF,fF,fF,fF] rfl rfl (any_of HT_.out (by kernel_rfl)) (fun _ _ _ h=>h) (Or.inl ⟨by rfl,?_⟩) ?_ ?_
    rotate_left
    ·intro w'
     go_simp
     with_reducible rfl
    rotate_left
    ·simp only [Act.put,sI,sZ,sS,i64_w,i32_w]
     rfl
    refine pure_ (i:=14) (N:=some 17) (v:=?_) (a':=?_) #[tT,tT,tT,tT,tT,tT,tT,tT,tT,tT,tT,tT,tT,tT,tT,fF,fF,fF,fF,fF,fF,fF,fF,fF,fF,fF] rfl rfl (any_of HT_.out (by kernel_rfl)) (fun _ _ _ h=>h) (Or.inl ⟨by rfl,?_⟩) ?_ ?_
    rotate_left
    ·intro w'
     go_simp
     with_reducible rfl
    rotate_left
    ·simp only [Act.put,sI,sZ,sS,i64_w,i32_w]
     rfl
    refine take_ (i:=15) (N:=some 18) (v:=?_) (a':=?_) #[tT,tT,tT,tT,tT,tT,tT,tT,tT,tT,tT,tT,tT,tT,tT,tT,fF,fF,fF,fF,fF,fF,fF,fF,fF,fF] rfl rfl (take_ofW HT_.out HW_.out (by kernel_rfl)) (fun _ _ _ h=>h) (Or.inl ⟨by rfl,?_⟩) hHeld ?_ ?_
    rotate_left
    ·rintro w' ⟨s0,s1⟩
     go_simp
     with_reducible rfl
    rotate_left
    ·simp only [Act.put,sI,sZ,sS,i64_w,i32_w]
     rfl
    refine pure_ (i:=16) (N:=some 19) (v:=?_) (a':=?_) #[tT,tT,tT,tT,tT,tT,tT,tT,tT,tT,tT,tT,tT,tT,tT,tT,tT,fF,fF,fF,fF,fF,fF,fF,fF,fF] rfl rfl (any_of HT_.out (by kernel_rfl)) (fun _ _ _ h=>h) (Or.inl ⟨by rfl,?_⟩) ?_ ?_
    rotate_left
    ·intro w'
     go_simp
     with_reducible rfl
    rotate_left
    ·simp only [Act.put,sI,sZ,sS,i64_w,i32_w]
     rfl
    refine pure_ (i:=17) (N:=some 20) (v:=?_) (a':=?_) #[tT,tT,tT,tT,tT,tT,tT,tT,tT,tT,tT,tT,tT,tT,tT,tT,tT,tT,fF,fF,fF,fF,fF,fF,fF,fF] rfl rfl (any_of HT_.out (by kernel_rfl)) (fun _ _ _ h=>h) (Or.inl ⟨by rfl,?_⟩) ?_ ?_
    rotate_left
    ·intro w'
     go_simp
     with_reducible rfl
    rotate_left
    ·simp only [Act.put,sI,sZ,sS,i64_w,i32_w]
     rfl
    refine pure_ (i:=18) (N:=some 21) (v:=?_) (a':=?_) #[tT,tT,tT,tT,tT,tT,tT,tT,tT,tT,tT,tT,tT,tT,tT,tT,tT,tT,tT,fF,fF,fF,fF,fF,fF,fF] rfl rfl (any_of HT_.out (by kernel_rfl)) (fun _ _ _ h=>h) (Or.inl ⟨by rfl,?_⟩) ?_ ?_
    rotate_left
    ·intro w'
     go_simp
     with_reducible rfl
    rotate_left
    ·simp only [Act.put,sI,sZ,sS,i64_w,i32_w]
     rfl
    refine pure_ (i:=19) (N:=some 22) (v:=undef) (a':=?_) #[tT,tT,tT,tT,tT,tT,tT,tT,tT,tT,tT,tT,tT,tT,tT,tT,tT,tT,tT,tT,fF,fF,fF,fF,fF,fF] rfl rfl (any_of HT_.out (by kernel_rfl)) (fun _ _ _ h=>h) (Or.inr ⟨by rfl,rfl⟩) ?_ ?_
    rotate_left
    ·simp only [Act.put,sI,sZ,sS,i64_w,i32_w]
     rfl
    refine pure_ (i:=20) (N:=some 23) (v:=undef) (a':=?_) #[tT,tT,tT,tT,tT,tT,tT,tT,tT,tT,tT,tT,tT,tT,tT,tT,tT,tT,tT,tT,tT,fF,fF,fF,fF,fF] rfl rfl (any_of HT_.out (by kernel_rfl)) (fun _ _ _ h=>h) (Or.inr ⟨by rfl,rfl⟩) ?_ ?_
    rotate_left
    ·simp only [Act.put,sI,sZ,sS,i64_w,i32_w]
     rfl
    refine pure_ (i:=21) (N:=some 24) (v:=undef) (a':=?_) #[tT,tT,tT,tT,tT,tT,tT,tT,tT,tT,tT,tT,tT,tT,tT,tT,tT,tT,tT,tT,tT,tT,fF,fF,fF,fF] rfl rfl (any_of HT_.out (by kernel_rfl)) (fun _ _ _ h=>h) (Or.inr ⟨by rfl,rfl⟩) ?_ ?_
    rotate_left
    ·simp only [Act.put,sI,sZ,sS,i64_w,i32_w]
     rfl
    refine pure_ (i:=22) (N:=some 25) (v:=undef) (a':=?_) #[tT,tT,tT,tT,tT,tT,tT,tT,tT,tT,tT,tT,tT,tT,tT,tT,tT,tT,tT,tT,tT,tT,tT,fF,fF,fF] rfl rfl (any_of HT_.out (by kernel_rfl)) (fun _ _ _ h=>h) (Or.inr ⟨by rfl,rfl⟩) ?_ ?_
    rotate_left
    ·simp only [Act.put,sI,sZ,sS,i64_w,i32_w]
     rfl
    refine pure_ (i:=23) (N:=some 26) (v:=?_) (a':=?_) #[tT,tT,tT,tT,tT,tT,tT,tT,tT,tT,tT,tT,tT,tT,tT,tT,tT,tT,tT,tT,tT,tT,tT,tT,fF,fF] rfl rfl (any_of HT_.out (by kernel_rfl)) (fun _ _ _ h=>h) (Or.inl ⟨by rfl,?_⟩) ?_ ?_
    rotate_left
    ·intro w'
     go_simp
     with_reducible rfl
    rotate_left
    ·simp only [Act.put,sI,sZ,sS,i64_w,i32_w]
     rfl
    refine pure_ (i:=24) (N:=some 27) (v:=?_) (a':=?_) #[tT,tT,tT,tT,tT,tT,tT,tT,tT,tT,tT,tT,tT,tT,tT,tT,tT,tT,tT,tT,tT,tT,tT,tT,tT,fF] rfl rfl (any_of HT_.out (by kernel_rfl)) (fun _ _ _ h=>h) (Or.inl ⟨by rfl,?_⟩) ?_ ?_
    rotate_left
    ·intro w'
     go_simp
     with_reducible rfl
    rotate_left
    ·simp only [Act.put,sI,sZ,sS,i64_w,i32_w]
     rfl
    refine pure_ (i:=25) (N:=some 2) (v:=?_) (a':=?_) #[tT,tT,tT,tT,tT,tT,tT,tT,tT,tT,tT,tT,tT,tT,tT,tT,tT,tT,tT,tT,tT,tT,tT,tT,tT,tT] rfl rfl (any_of HT_.out (by kernel_rfl)) (fun _ _ _ h=>h) (Or.inl ⟨by rfl,?_⟩) ?_ ?_
    rotate_left
    ·intro w'
     go_simp
     with_reducible rfl
    rotate_left
    ·simp only [Act.put,sI,sZ,sS,i64_w,i32_w]
     rfl
    refine done_ (done_of HT_.out (by kernel_rfl)) ?_
    try go_wp2
    go_ret
    exact ⟨by first|rfl|(simp [errW_none,errW_some] <;> rfl)|(simp [*,errW_none,errW_some] <;> rfl),bb HB⟩
   ·rw [if_neg c5] at H
    have c5b0:((a0_1.size:Int) == 1) = false:=beq_eq_false_iff_ne.mpr c5
    have c5b1:((a0_1.size:Int) != 1) = true:=bne_iff_ne.mpr c5
    by_cases c9:0 < (a0_1.size:Int)
    ·rw [if_pos c9] at H
     have c9b0:decide (0 < (a0_1.size:Int)) = true:=decide_eq_true c9
     have c9b1:decide (0 < a0_1.size) = true:=decide_eq_true (by omega)
     clear c9
     obtain rfl:=Option.some.inj H
     go_enter Try.func34,Try.ntmps34
     try go_wp2_with (first|((with_reducible refine gate_dst (N:=1) rfl ?_);(try (refine gate_guard (by rfl) ?_;dsimp only));refine box_event ?hg (N:=1) ?hd (cs:=#[.string a0_0,.string a0_1]) (t:=27) ?hr ?_;(case hd=>rfl);(case hg=>rfl);(case hr=>first|(go_simp;done)|(go_simp;rfl));intro gb227 hg w11 hbox hb;have BK227:=aM (hbox);have GW227:=wl hg HB;have GE227:=wl hg HB;replace HB:=bs HB hb;clear hb hbox hg))
     replace BK227:=aM (yD BK227.out);replace HB:=aM (zD HB.out)
     refine start_ (n:=26) (S:=fun w'=>w'.cell? ⟨gb227,0,none⟩ = some (.string a0_0) ∧ w'.cell? ⟨gb227,1,none⟩ = some (.string a0_1)) (ds:=[]) #[fF,fF,fF,fF,fF,fF,fF,fF,fF,fF,fF,fF,fF,fF,fF,fF,fF,fF,fF,fF,fF,fF,fF,fF,fF,fF] (by kernel_rfl) rfl rfl ⟨(blk_cell BK227.out 0).trans rfl,(blk_cell BK227.out 1).trans rfl⟩ (fun hHeld=>?_);refine with_tabW impl_Sequence_isStar.tab1 impl_Sequence_isStar.bits1 (fun HT_ HW_=>?_)
     generalize w11.drew = w12 at BK227 HB hHeld ⊢
     refine pure_ (i:=0) (N:=some 3) (v:=?_) (a':=?_) #[tT,fF,fF,fF,fF,fF,fF,fF,fF,fF,fF,fF,fF,fF,fF,fF,fF,fF,fF,fF,fF,fF,fF,fF,fF,fF] rfl rfl (any_of HT_.out (by kernel_rfl)) (fun _ _ _ h=>h) (Or.inl ⟨by rfl,?_⟩) ?_ ?_
     rotate_left
     ·intro w'
      go_simp
      with_reducible rfl
     rotate_left
     ·simp only [Act.put,sI,sZ,sS,i64_w,i32_w]
      rfl
     refine take_ (i:=1) (N:=some 4) (v:=?_) (a':=?_) #[tT,tT,fF,fF,fF,fF,fF,fF,fF,fF,fF,fF,fF,fF,fF,fF,fF,fF,fF,fF,fF,fF,fF,fF,fF,fF] rfl rfl (take_ofW HT_.out HW_.out (by kernel_rfl)) (fun _ _ _ h=>h) (Or.inl ⟨by rfl,?_⟩) hHeld ?_ ?_
     rotate_left
     ·rintro w' ⟨s0,s1⟩
      go_simp
      with_reducible rfl
     rotate_left
     ·simp only [Act.put,sI,sZ,sS,i64_w,i32_w]
      rfl
     refine pure_ (i:=2) (N:=some 5) (v:=?_) (a':=?_) #[tT,tT,tT,fF,fF,fF,fF,fF,fF,fF,fF,fF,fF,fF,fF,fF,fF,fF,fF,fF,fF,fF,fF,fF,fF,fF] rfl rfl (any_of HT_.out (by kernel_rfl)) (fun _ _ _ h=>h) (Or.inl ⟨by rfl,?_⟩) ?_ ?_
     rotate_left
     ·intro w'
      go_simp
      with_reducible rfl
     rotate_left
     ·simp only [Act.put,sI,sZ,sS,i64_w,i32_w]
      rfl
     refine pure_ (i:=3) (N:=some 6) (v:=?_) (a':=?_) #[tT,tT,tT,tT,fF,fF,fF,fF,fF,fF,fF,fF,fF,fF,fF,fF,fF,fF,fF,fF,fF,fF,fF,fF,fF,fF] rfl rfl (any_of HT_.out (by kernel_rfl)) (fun _ _ _ h=>h) (Or.inl ⟨by rfl,?_⟩) ?_ ?_
     rotate_left
     ·intro w'
      go_simp
      with_reducible rfl
     rotate_left
     ·simp only [Act.put,sI,sZ,sS,i64_w,i32_w]
      rfl
     refine pure_ (i:=4) (N:=some 7) (v:=?_) (a':=?_) #[tT,tT,tT,tT,tT,fF,fF,fF,fF,fF,fF,fF,fF,fF,fF,fF,fF,fF,fF,fF,fF,fF,fF,fF,fF,fF] rfl rfl (any_of HT_.out (by kernel_rfl)) (fun _ _ _ h=>h) (Or.inl ⟨by rfl,?_⟩) ?_ ?_
     rotate_left
     ·intro w'
      go_simp
      with_reducible rfl
     rotate_left
     ·simp only [Act.put,sI,sZ,sS,i64_w,i32_w]
      rfl
     refine pure_ (i:=7) (N:=some 10) (v:=?_) (a':=?_) #[tT,tT,tT,tT,tT,fF,fF,tT,fF,fF,fF,fF,fF,fF,fF,fF,fF,fF,fF,fF,fF,fF,fF,fF,fF,fF] rfl rfl (any_of HT_.out (by kernel_rfl)) (fun _ _ _ h=>h) (Or.inl ⟨by rfl,?_⟩) ?_ ?_
     rotate_left
     ·intro w'
      go_simp
      with_reducible rfl
     rotate_left
     ·simp only [Act.put,sI,sZ,sS,i64_w,i32_w]
      rfl
     refine take_ (i:=5) (N:=some 8) (v:=?_) (a':=?_) #[tT,tT,tT,tT,tT,tT,fF,tT,fF,fF,fF,fF,fF,fF,fF,fF,fF,fF,fF,fF,fF,fF,fF,fF,fF,fF] rfl rfl (take_ofW HT_.out HW_.out (by kernel_rfl)) (fun _ _ _ h=>h) (Or.inl ⟨by rfl,?_⟩) hHeld ?_ ?_
     rotate_left
     ·rintro w' ⟨s0,s1⟩
      go_simp
      with_reducible rfl
     rotate_left
     ·simp only [Act.put,sI,sZ,sS,i64_w,i32_w]
      rfl
     refine take_ (i:=8) (N:=some 11) (v:=?_) (a':=?_) #[tT,tT,tT,tT,tT,tT,fF,tT,tT,fF,fF,fF,fF,fF,fF,fF,fF,fF,fF,fF,fF,fF,fF,fF,fF,fF] rfl rfl (take_ofW HT_.out HW_.out (by kernel_rfl)) (fun _ _ _ h=>h) (Or.inl ⟨by rfl,?_⟩) hHeld ?_ ?_
     rotate_left
     ·rintro w' ⟨s0,s1⟩
      go_simp
      with_reducible rfl
     rotate_left
     ·simp only [Act.put,sI,sZ,sS,i64_w,i32_w]
      rfl
     refine pure_ (i:=9) (N:=some 12) (v:=?_) (a':=?_) #[tT,tT,tT,tT,tT,tT,fF,tT,tT,tT,fF,fF,fF,fF,fF,fF,fF,fF,fF,fF,fF,fF,fF,fF,fF,fF] rfl rfl (any_of HT_.out (by kernel_rfl)) (fun _ _ _ h=>h) (Or.inl ⟨by rfl,?_⟩) ?_ ?_
     rotate_left
     ·intro w'
      go_simp
      with_reducible rfl
     rotate_left
     ·simp only [Act.put,sI,sZ,sS,i64_w,i32_w]
      rfl
     refine pure_ (i:=10) (N:=some 13) (v:=?_) (a':=?_) #[tT,tT,tT,tT,tT,tT,fF,tT,tT,tT,tT,fF,fF,fF,fF,fF,fF,fF,fF,fF,fF,fF,fF,fF,fF,fF] rfl rfl (any_of HT_.out (by kernel_rfl)) (fun _ _ _ h=>h) (Or.inl ⟨by rfl,?_⟩) ?_ ?_
     rotate_left
     ·intro w'
      go_simp
      with_reducible rfl
     rotate_left
     ·simp only [Act.put,sI,sZ,sS,i64_w,i32_w]
      rfl
     refine one_ (i:=6) (N:=some 9) #[tT,tT,tT,tT,tT,tT,tT,tT,tT,tT,tT,fF,fF,fF,fF,fF,fF,fF,fF,fF,fF,fF,fF,fF,fF,fF] rfl rfl (one_of HT_.out (by kernel_rfl)) (by decide) (fun K hK=>?_)
     refine goes_ Try.func44 (by kernel_rfl) rfl #[.string a0_1,.int .u8 42] (by rfl) rfl rfl (by (try simp only [sM,sC,sN]);first|done|rfl|(simp only [List.length_drop,List.length_take];rfl)) ?_
     with_reducible refine (strings_IndexByte.calls a0_1 42 t228 _ A3.out).mono ?_
     rintro e w13 ⟨rfl,hb⟩
     refine ⟨_,rfl,?_⟩
     replace BK227:=kb BK227 hb;replace HB:=bs HB hb;(try clear hb)
     have p10:0 ≤ (0:Int):=(by omega)
     have q10:0 < a0_1.size:=(by have:(0:Int) < (a0_1.size:Int):=of_decide_eq_true (by first|(with_reducible assumption)|assumption);omega)
     have hx10:∀ h:0 < a0_1.size,((a0_1[0]'h).toNat:Int) = bt a0_1 0:=bt_at a0_1 0
     clear p10
     have qi10:(0 < (a0_1.size:Int)) = True:=eq_true (of_decide_eq_true (by first|(with_reducible assumption)|assumption))
     replace q10:=eq_true q10
     refine hK.out _ _ ⟨(blk_cell BK227.out 0).trans rfl,(blk_cell BK227.out 1).trans rfl⟩ (fun hHeld=>?_)
     clear hK K
     refine norm_ (a':=?_) ?_ ?_
     rotate_left
     ·show Act.put _ (some 9) _ = _
      simp only [Act.put,sI,sZ,sS,i64_w,i32_w]
      rfl
     refine pure_ (i:=11) (N:=some 14) (v:=?_) (a':=?_) #[tT,tT,tT,tT,tT,tT,tT,tT,tT,tT,tT,tT,fF,fF,fF,fF,fF,fF,fF,fF,fF,fF,fF,fF,fF,fF] rfl rfl (any_of HT_.out (by kernel_rfl)) (fun _ _ _ h=>h) (Or.inl ⟨by rfl,?_⟩) ?_ ?_
     rotate_left
     ·intro w'
      go_simp
      with_reducible rfl
     rotate_left
     ·simp only [Act.put,sI,sZ,sS,i64_w,i32_w]
      rfl
     refine pure_ (i:=12) (N:=some 15) (v:=?_) (a':=?_) #[tT,tT,tT,tT,tT,tT,tT,tT,tT,tT,tT,tT,tT,fF,fF,fF,fF,fF,fF,fF,fF,fF,fF,fF,fF,fF] rfl rfl (any_of HT_.out (by kernel_rfl)) (fun _ _ _ h=>h) (Or.inl ⟨by rfl,?_⟩) ?_ ?_
     rotate_left
     ·intro w'
      go_simp
      with_reducible rfl
     rotate_left
     ·simp only [Act.put,sI,sZ,sS,i64_w,i32_w]
      rfl
     refine pure_ (i:=13) (N:=some 16) (v:=?_) (a':=?_) #[tT,tT,tT,tT,tT,tT,tT,tT,tT,tT,tT,tT,tT,tT,fF,fF,fF,fF,fF,fF,fF,fF,fF,fF,fF,fF] rfl rfl (any_of HT_.out (by kernel_rfl)) (fun _ _ _ h=>h) (Or.inl ⟨by rfl,?_⟩) ?_ ?_
     rotate_left
     ·intro w'
      go_simp
      with_reducible rfl
     rotate_left
     ·simp only [Act.put,sI,sZ,sS,i64_w,i32_w]
      rfl
     refine pure_ (i:=14) (N:=some 17) (v:=?_) (a':=?_) #[tT,tT,tT,tT,tT,tT,tT,tT,tT,tT,tT,tT,tT,tT,tT,fF,fF,fF,fF,fF,fF,fF,fF,fF,fF,fF] rfl rfl (any_of HT_.out (by kernel_rfl)) (fun _ _ _ h=>h) (Or.inl ⟨by rfl,?_⟩) ?_ ?_
     rotate_left
     ·intro w'
      go_simp
      with_reducible rfl
     rotate_left
     ·simp only [Act.put,sI,sZ,sS,i64_w,i32_w]
      rfl
     refine take_ (i:=15) (N:=some 18) (v:=?_) (a':=?_) #[tT,tT,tT,tT,tT,tT,tT,tT,tT,tT,tT,tT,tT,tT,tT,tT,fF,fF,fF,fF,fF,fF,fF,fF,fF,fF] rfl rfl (take_ofW HT_.out HW_.out (by kernel_rfl)) (fun _ _ _ h=>h) (Or.inl ⟨by rfl,?_⟩) hHeld ?_ ?_
     rotate_left
     ·rintro w' ⟨s0,s1⟩
      go_simp
      with_reducible rfl
     rotate_left
     ·simp only [Act.put,sI,sZ,sS,i64_w,i32_w]
      rfl
     refine pure_ (i:=16) (N:=some 19) (v:=?_) (a':=?_) #[tT,tT,tT,tT,tT,tT,tT,tT,tT,tT,tT,tT,tT,tT,tT,tT,tT,fF,fF,fF,fF,fF,fF,fF,fF,fF] rfl rfl (any_of HT_.out (by kernel_rfl)) (fun _ _ _ h=>h) (Or.inl ⟨by rfl,?_⟩) ?_ ?_
     rotate_left
     ·intro w'
      go_simp
      with_reducible rfl
     rotate_left
     ·simp only [Act.put,sI,sZ,sS,i64_w,i32_w]
      rfl
     refine pure_ (i:=17) (N:=some 20) (v:=?_) (a':=?_) #[tT,tT,tT,tT,tT,tT,tT,tT,tT,tT,tT,tT,tT,tT,tT,tT,tT,tT,fF,fF,fF,fF,fF,fF,fF,fF] rfl rfl (any_of HT_.out (by kernel_rfl)) (fun _ _ _ h=>h) (Or.inl ⟨by rfl,?_⟩) ?_ ?_
     rotate_left
     ·intro w'
      go_simp
      with_reducible rfl
     rotate_left
     ·simp only [Act.put,sI,sZ,sS,i64_w,i32_w]
      rfl
     refine pure_ (i:=18) (N:=some 21) (v:=?_) (a':=?_) #[tT,tT,tT,tT,tT,tT,tT,tT,tT,tT,tT,tT,tT,tT,tT,tT,tT,tT,tT,fF,fF,fF,fF,fF,fF,fF] rfl rfl (any_of HT_.out (by kernel_rfl)) (fun _ _ _ h=>h) (Or.inl ⟨by rfl,?_⟩) ?_ ?_
     rotate_left
     ·intro w'
      go_simp
      with_reducible rfl
     rotate_left
     ·simp only [Act.put,sI,sZ,sS,i64_w,i32_w]
      rfl
     refine pure_ (i:=19) (N:=some 22) (v:=?_) (a':=?_) #[tT,tT,tT,tT,tT,tT,tT,tT,tT,tT,tT,tT,tT,tT,tT,tT,tT,tT,tT,tT,fF,fF,fF,fF,fF,fF] rfl rfl (any_of HT_.out (by kernel_rfl)) (fun _ _ _ h=>h) (Or.inl ⟨by rfl,?_⟩) ?_ ?_
     rotate_left
     ·intro w'
      go_simp
      with_reducible rfl
     rotate_left
     ·simp only [Act.put,sI,sZ,sS,i64_w,i32_w]
      rfl
     refine take_ (i:=20) (N:=some 23) (v:=?_) (a':=?_) #[tT,tT,tT,tT,tT,tT,tT,tT,tT,tT,tT,tT,tT,tT,tT,tT,tT,tT,tT,tT,tT,fF,fF,fF,fF,fF] rfl rfl (take_ofW HT_.out HW_.out (by kernel_rfl)) (fun _ _ _ h=>h) (Or.inl ⟨by rfl,?_⟩) hHeld ?_ ?_
     rotate_left
     ·rintro w' ⟨s0,s1⟩
      go_simp
      with_reducible rfl
     rotate_left
     ·simp only [Act.put,sI,sZ,sS,i64_w,i32_w]
      rfl
     refine take_ (i:=21) (N:=some 24) (v:=?_) (a':=?_) #[tT,tT,tT,tT,tT,tT,tT,tT,tT,tT,tT,tT,tT,tT,tT,tT,tT,tT,tT,tT,tT,tT,fF,fF,fF,fF] rfl rfl (take_ofW HT_.out HW_.out (by kernel_rfl)) (fun _ _ _ h=>h) (Or.inl ⟨by rfl,?_⟩) hHeld ?_ ?_
     rotate_left
     ·rintro w' ⟨s0,s1⟩
      go_simp
      with_reducible rfl
     rotate_left
     ·simp only [Act.put,sI,sZ,sS,i64_w,i32_w]
      rfl
     refine pure_ (i:=22) (N:=some 25) (v:=?_) (a':=?_) #[tT,tT,tT,tT,tT,tT,tT,tT,tT,tT,tT,tT,tT,tT,tT,tT,tT,tT,tT,tT,tT,tT,tT,fF,fF,fF] rfl rfl (any_of HT_.out (by kernel_rfl)) (fun _ _ _ h=>h) (Or.inl ⟨by rfl,?_⟩) ?_ ?_
     rotate_left
     ·intro w'
      go_simp
      with_reducible rfl
     rotate_left
     ·simp only [Act.put,sI,sZ,sS,i64_w,i32_w]
      rfl
     refine pure_ (i:=23) (N:=some 26) (v:=?_) (a':=?_) #[tT,tT,tT,tT,tT,tT,tT,tT,tT,tT,tT,tT,tT,tT,tT,tT,tT,tT,tT,tT,tT,tT,tT,tT,fF,fF] rfl rfl (any_of HT_.out (by kernel_rfl)) (fun _ _ _ h=>h) (Or.inl ⟨by rfl,?_⟩) ?_ ?_
     rotate_left
     ·intro w'
      go_simp
      with_reducible rfl
     rotate_left
     ·simp only [Act.put,sI,sZ,sS,i64_w,i32_w]
      rfl
     refine pure_ (i:=24) (N:=some 27) (v:=?_) (a':=?_) #[tT,tT,tT,tT,tT,tT,tT,tT,tT,tT,tT,tT,tT,tT,tT,tT,tT,tT,tT,tT,tT,tT,tT,tT,tT,fF] rfl rfl (any_of HT_.out (by kernel_rfl)) (fun _ _ _ h=>h) (Or.inl ⟨by rfl,?_⟩) ?_ ?_
     rotate_left
     ·intro w'
      go_simp
      with_reducible rfl
     rotate_left
     ·simp only [Act.put,sI,sZ,sS,i64_w,i32_w]
      rfl
     refine pure_ (i:=25) (N:=some 2) (v:=?_) (a':=?_) #[tT,tT,tT,tT,tT,tT,tT,tT,tT,tT,tT,tT,tT,tT,tT,tT,tT,tT,tT,tT,tT,tT,tT,tT,tT,tT] rfl rfl (any_of HT_.out (by kernel_rfl)) (fun _ _ _ h=>h) (Or.inl ⟨by rfl,?_⟩) ?_ ?_
     rotate_left
     ·intro w'
      go_simp
      with_reducible rfl
     rotate_left
     ·simp only [Act.put,sI,sZ,sS,i64_w,i32_w]
      rfl
     refine done_ (done_of HT_.out (by kernel_rfl)) ?_
     try go_wp2
     go_ret
     exact ⟨by first|rfl|(simp [errW_none,errW_some] <;> rfl)|(simp [*,errW_none,errW_some] <;> rfl),bb HB⟩
    ·rw [if_neg c9] at H
     exact absurd H (by simp)
  ·rw [if_neg c4] at H
   have c4b0:(t228 == (wrap64 ((a0_1.size:Int) - 1))) = false:=beq_eq_false_iff_ne.mpr c4
   have c4b1:(t228 != (wrap64 ((a0_1.size:Int) - 1))) = true:=bne_iff_ne.mpr c4
   obtain rfl:=Option.some.inj H
   go_enter Try.func34,Try.ntmps34
   try go_wp2_with (first|((with_reducible refine gate_dst (N:=1) rfl ?_);(try (refine gate_guard (by rfl) ?_;dsimp only));refine box_event ?hg (N:=1) ?hd (cs:=#[.string a0_0,.string a0_1]) (t:=27) ?hr ?_;(case hd=>rfl);(case hg=>rfl);(case hr=>first|(go_simp;done)|(go_simp;rfl));intro gb227 hg w14 hbox hb;have BK227:=aM (hbox);have GW227:=wl hg HB;have GE227:=wl hg HB;replace HB:=bs HB hb;clear hb hbox hg))
   replace BK227:=aM (yD BK227.out);replace HB:=aM (zD HB.out)
   refine start_ (n:=26) (S:=fun w'=>w'.cell? ⟨gb227,0,none⟩ = some (.string a0_0) ∧ w'.cell? ⟨gb227,1,none⟩ = some (.string a0_1)) (ds:=[]) #[fF,fF,fF,fF,fF,fF,fF,fF,fF,fF,fF,fF,fF,fF,fF,fF,fF,fF,fF,fF,fF,fF,fF,fF,fF,fF] (by kernel_rfl) rfl rfl ⟨(blk_cell BK227.out 0).trans rfl,(blk_cell BK227.out 1).trans rfl⟩ (fun hHeld=>?_);refine with_tabW impl_Sequence_isStar.tab1 impl_Sequence_isStar.bits1 (fun HT_ HW_=>?_)
   generalize w14.drew = w15 at BK227 HB hHeld ⊢
   refine pure_ (i:=0) (N:=some 3) (v:=?_) (a':=?_) #[tT,fF,fF,fF,fF,fF,fF,fF,fF,fF,fF,fF,fF,fF,fF,fF,fF,fF,fF,fF,fF,fF,fF,fF,fF,fF] rfl rfl (any_of HT_.out (by kernel_rfl)) (fun _ _ _ h=>h) (Or.inl ⟨by rfl,?_⟩) ?_ ?_
   rotate_left
   ·intro w'
    go_simp
    with_reducible rfl
   rotate_left
   ·simp only [Act.put,sI,sZ,sS,i64_w,i32_w]
    rfl
   refine take_ (i:=1) (N:=some 4) (v:=?_) (a':=?_) #[tT,tT,fF,fF,fF,fF,fF,fF,fF,fF,fF,fF,fF,fF,fF,fF,fF,fF,fF,fF,fF,fF,fF,fF,fF,fF] rfl rfl (take_ofW HT_.out HW_.out (by kernel_rfl)) (fun _ _ _ h=>h) (Or.inl ⟨by rfl,?_⟩) hHeld ?_ ?_
   rotate_left
   ·rintro w' ⟨s0,s1⟩
    go_simp
    with_reducible rfl
   rotate_left
   ·simp only [Act.put,sI,sZ,sS,i64_w,i32_w]
    rfl
   refine pure_ (i:=2) (N:=some 5) (v:=?_) (a':=?_) #[tT,tT,tT,fF,fF,fF,fF,fF,fF,fF,fF,fF,fF,fF,fF,fF,fF,fF,fF,fF,fF,fF,fF,fF,fF,fF] rfl rfl (any_of HT_.out (by kernel_rfl)) (fun _ _ _ h=>h) (Or.inl ⟨by rfl,?_⟩) ?_ ?_
   rotate_left
   ·intro w'
    go_simp
    with_reducible rfl
   rotate_left
   ·simp only [Act.put,sI,sZ,sS,i64_w,i32_w]
    rfl
   refine pure_ (i:=3) (N:=some 6) (v:=?_) (a':=?_) #[tT,tT,tT,tT,fF,fF,fF,fF,fF,fF,fF,fF,fF,fF,fF,fF,fF,fF,fF,fF,fF,fF,fF,fF,fF,fF] rfl rfl (any_of HT_.out (by kernel_rfl)) (fun _ _ _ h=>h) (Or.inl ⟨by rfl,?_⟩) ?_ ?_
   rotate_left
   ·intro w'
    go_simp
    with_reducible rfl
   rotate_left
   ·simp only [Act.put,sI,sZ,sS,i64_w,i32_w]
    rfl
   refine pure_ (i:=4) (N:=some 7) (v:=?_) (a':=?_) #[tT,tT,tT,tT,tT,fF,fF,fF,fF,fF,fF,fF,fF,fF,fF,fF,fF,fF,fF,fF,fF,fF,fF,fF,fF,fF] rfl rfl (any_of HT_.out (by kernel_rfl)) (fun _ _ _ h=>h) (Or.inl ⟨by rfl,?_⟩) ?_ ?_
   rotate_left
   ·intro w'
    go_simp
    with_reducible rfl
   rotate_left
   ·simp only [Act.put,sI,sZ,sS,i64_w,i32_w]
    rfl
   refine pure_ (i:=7) (N:=some 10) (v:=?_) (a':=?_) #[tT,tT,tT,tT,tT,fF,fF,tT,fF,fF,fF,fF,fF,fF,fF,fF,fF,fF,fF,fF,fF,fF,fF,fF,fF,fF] rfl rfl (any_of HT_.out (by kernel_rfl)) (fun _ _ _ h=>h) (Or.inl ⟨by rfl,?_⟩) ?_ ?_
   rotate_left
   ·intro w'
    go_simp
    with_reducible rfl
   rotate_left
   ·simp only [Act.put,sI,sZ,sS,i64_w,i32_w]
    rfl
   refine take_ (i:=5) (N:=some 8) (v:=?_) (a':=?_) #[tT,tT,tT,tT,tT,tT,fF,tT,fF,fF,fF,fF,fF,fF,fF,fF,fF,fF,fF,fF,fF,fF,fF,fF,fF,fF] rfl rfl (take_ofW HT_.out HW_.out (by kernel_rfl)) (fun _ _ _ h=>h) (Or.inl ⟨by rfl,?_⟩) hHeld ?_ ?_
   rotate_left
   ·rintro w' ⟨s0,s1⟩
    go_simp
    with_reducible rfl
   rotate_left
   ·simp only [Act.put,sI,sZ,sS,i64_w,i32_w]
    rfl
   refine take_ (i:=8) (N:=some 11) (v:=?_) (a':=?_) #[tT,tT,tT,tT,tT,tT,fF,tT,tT,fF,fF,fF,fF,fF,fF,fF,fF,fF,fF,fF,fF,fF,fF,fF,fF,fF] rfl rfl (take_ofW HT_.out HW_.out (by kernel_rfl)) (fun _ _ _ h=>h) (Or.inl ⟨by rfl,?_⟩) hHeld ?_ ?_
   rotate_left
   ·rintro w' ⟨s0,s1⟩
    go_simp
    with_reducible rfl
   rotate_left
   ·simp only [Act.put,sI,sZ,sS,i64_w,i32_w]
    rfl
   refine pure_ (i:=9) (N:=some 12) (v:=?_) (a':=?_) #[tT,tT,tT,tT,tT,tT,fF,tT,tT,tT,fF,fF,fF,fF,fF,fF,fF,fF,fF,fF,fF,fF,fF,fF,fF,fF] rfl rfl (any_of HT_.out (by kernel_rfl)) (fun _ _ _ h=>h) (Or.inl ⟨by rfl,?_⟩) ?_ ?_
   rotate_left
   ·intro w'
    go_simp
    with_reducible rfl
   rotate_left
   ·simp only [Act.put,sI,sZ,sS,i64_w,i32_w]
    rfl
   refine pure_ (i:=10) (N:=some 13) (v:=?_) (a':=?_) #[tT,tT,tT,tT,tT,tT,fF,tT,tT,tT,tT,fF,fF,fF,fF,fF,fF,fF,fF,fF,fF,fF,fF,fF,fF,fF] rfl rfl (any_of HT_.out (by kernel_rfl)) (fun _ _ _ h=>h) (Or.inl ⟨by rfl,?_⟩) ?_ ?_
   rotate_left
   ·intro w'
    go_simp
    with_reducible rfl
   rotate_left
   ·simp only [Act.put,sI,sZ,sS,i64_w,i32_w]
    rfl
   refine one_ (i:=6) (N:=some 9) #[tT,tT,tT,tT,tT,tT,tT,tT,tT,tT,tT,fF,fF,fF,fF,fF,fF,fF,fF,fF,fF,fF,fF,fF,fF,fF] rfl rfl (one_of HT_.out (by kernel_rfl)) (by decide) (fun K hK=>?_)
   refine goes_ Try.func44 (by kernel_rfl) rfl #[.string a0_1,.int .u8 42] (by rfl) rfl rfl (by (try simp only [sM,sC,sN]);first|done|rfl|(simp only [List.length_drop,List.length_take];rfl)) ?_
   with_reducible refine (strings_IndexByte.calls a0_1 42 t228 _ A3.out).mono ?_
   rintro e w16 ⟨rfl,hb⟩
   refine ⟨_,rfl,?_⟩
   replace BK227:=kb BK227 hb;replace HB:=bs HB hb;(try clear hb)
   refine hK.out _ _ ⟨(blk_cell BK227.out 0).trans rfl,(blk_cell BK227.out 1).trans rfl⟩ (fun hHeld=>?_)
   clear hK K
   refine norm_ (a':=?_) ?_ ?_
   rotate_left
   ·show Act.put _ (some 9) _ = _
    simp only [Act.put,sI,sZ,sS,i64_w,i32_w]
    rfl
   refine pure_ (i:=11) (N:=some 14) (v:=?_) (a':=?_) #[tT,tT,tT,tT,tT,tT,tT,tT,tT,tT,tT,tT,fF,fF,fF,fF,fF,fF,fF,fF,fF,fF,fF,fF,fF,fF] rfl rfl (any_of HT_.out (by kernel_rfl)) (fun _ _ _ h=>h) (Or.inl ⟨by rfl,?_⟩) ?_ ?_
   rotate_left
   ·intro w'
    go_simp
    with_reducible rfl
   rotate_left
   ·simp only [Act.put,sI,sZ,sS,i64_w,i32_w]
    rfl
   refine pure_ (i:=12) (N:=some 15) (v:=?_) (a':=?_) #[tT,tT,tT,tT,tT,tT,tT,tT,tT,tT,tT,tT,tT,fF,fF,fF,fF,fF,fF,fF,fF,fF,fF,fF,fF,fF] rfl rfl (any_of HT_.out (by kernel_rfl)) (fun _ _ _ h=>h) (Or.inl ⟨by rfl,?_⟩) ?_ ?_
   rotate_left
   ·intro w'
    go_simp
    with_reducible rfl
   rotate_left
   ·simp only [Act.put,sI,sZ,sS,i64_w,i32_w]
    rfl
   refine pure_ (i:=13) (N:=some 16) (v:=?_) (a':=?_) #[tT,tT,tT,tT,tT,tT,tT,tT,tT,tT,tT,tT,tT,tT,fF,fF,fF,fF,fF,fF,fF,fF,fF,fF,fF,fF] rfl rfl (any_of HT_.out (by kernel_rfl)) (fun _ _ _ h=>h) (Or.inl ⟨by rfl,?_⟩) ?_ ?_
   rotate_left
   ·intro w'
    go_simp
    with_reducible rfl
   rotate_left
   ·simp only [Act.put,sI,sZ,sS,i64_w,i32_w]
    rfl
   refine pure_ (i:=14) (N:=some 17) (v:=undef) (a':=?_) #[tT,tT,tT,tT,tT,tT,tT,tT,tT,tT,tT,tT,tT,tT,tT,fF,fF,fF,fF,fF,fF,fF,fF,fF,fF,fF] rfl rfl (any_of HT_.out (by kernel_rfl)) (fun _ _ _ h=>h) (Or.inr ⟨by rfl,rfl⟩) ?_ ?_
   rotate_left
   ·simp only [Act.put,sI,sZ,sS,i64_w,i32_w]
    rfl
   refine pure_ (i:=15) (N:=some 18) (v:=undef) (a':=?_) #[tT,tT,tT,tT,tT,tT,tT,tT,tT,tT,tT,tT,tT,tT,tT,tT,fF,fF,fF,fF,fF,fF,fF,fF,fF,fF] rfl rfl (any_of HT_.out (by kernel_rfl)) (fun _ _ _ h=>h) (Or.inr ⟨by rfl,rfl⟩) ?_ ?_
   rotate_left
   ·simp only [Act.put,sI,sZ,sS,i64_w,i32_w]
    rfl
   refine pure_ (i:=16) (N:=some 19) (v:=undef) (a':=?_) #[tT,tT,tT,tT,tT,tT,tT,tT,tT,tT,tT,tT,tT,tT,tT,tT,tT,fF,fF,fF,fF,fF,fF,fF,fF,fF] rfl rfl (any_of HT_.out (by kernel_rfl)) (fun _ _ _ h=>h) (Or.inr ⟨by rfl,rfl⟩) ?_ ?_
   rotate_left
   ·simp only [Act.put,sI,sZ,sS,i64_w,i32_w]
    rfl
   refine pure_ (i:=17) (N:=some 20) (v:=undef) (a':=?_) #[tT,tT,tT,tT,tT,tT,tT,tT,tT,tT,tT,tT,tT,tT,tT,tT,tT,tT,fF,fF,fF,fF,fF,fF,fF,fF] rfl rfl (any_of HT_.out (by kernel_rfl)) (fun _ _ _ h=>h) (Or.inr ⟨by rfl,rfl⟩) ?_ ?_
   rotate_left
   ·simp only [Act.put,sI,sZ,sS,i64_w,i32_w]
    rfl
   refine pure_ (i:=18) (N:=some 21) (v:=undef) (a':=?_) #[tT,tT,tT,tT,tT,tT,tT,tT,tT,tT,tT,tT,tT,tT,tT,tT,tT,tT,tT,fF,fF,fF,fF,fF,fF,fF] rfl rfl (any_of HT_.out (by kernel_rfl)) (fun _ _ _ h=>h) (Or.inr ⟨by rfl,rfl⟩) ?_ ?_
   rotate_left
   ·simp only [Act.put,sI,sZ,sS,i64_w,i32_w]
    rfl
   refine pure_ (i:=19) (N:=some 22) (v:=undef) (a':=?_) #[tT,tT,tT,tT,tT,tT,tT,tT,tT,tT,tT,tT,tT,tT,tT,tT,tT,tT,tT,tT,fF,fF,fF,fF,fF,fF] rfl rfl (any_of HT_.out (by kernel_rfl)) (fun _ _ _ h=>h) (Or.inr ⟨by rfl,rfl⟩) ?_ ?_
   rotate_left
   ·simp only [Act.put,sI,sZ,sS,i64_w,i32_w]
    rfl
   refine pure_ (i:=20) (N:=some 23) (v:=undef) (a':=?_) #[tT,tT,tT,tT,tT,tT,tT,tT,tT,tT,tT,tT,tT,tT,tT,tT,tT,tT,tT,tT,tT,fF,fF,fF,fF,fF] rfl rfl (any_of HT_.out (by kernel_rfl)) (fun _ _ _ h=>h) (Or.inr ⟨by rfl,rfl⟩) ?_ ?_
   rotate_left
   ·simp only [Act.put,sI,sZ,sS,i64_w,i32_w]
    rfl
   refine pure_ (i:=21) (N:=some 24) (v:=undef) (a':=?_) #[tT,tT,tT,tT,tT,tT,tT,tT,tT,tT,tT,tT,tT,tT,tT,tT,tT,tT,tT,tT,tT,tT,fF,fF,fF,fF] rfl rfl (any_of HT_.out (by kernel_rfl)) (fun _ _ _ h=>h) (Or.inr ⟨by rfl,rfl⟩) ?_ ?_
   rotate_left
   ·simp only [Act.put,sI,sZ,sS,i64_w,i32_w]
    rfl
   refine pure_ (i:=22) (N:=some 25) (v:=undef) (a':=?_) #[tT,tT,tT,tT,tT,tT,tT,tT,tT,tT,tT,tT,tT,tT,tT,tT,tT,tT,tT,tT,tT,tT,tT,fF,fF,fF] rfl rfl (any_of HT_.out (by kernel_rfl)) (fun _ _ _ h=>h) (Or.inr ⟨by rfl,rfl⟩) ?_ ?_
   rotate_left
   ·simp only [Act.put,sI,sZ,sS,i64_w,i32_w]
    rfl
   refine pure_ (i:=23) (N:=some 26) (v:=undef) (a':=?_) #[tT,tT,tT,tT,tT,tT,tT,tT,tT,tT,tT,tT,tT,tT,tT,tT,tT,tT,tT,tT,tT,tT,tT,tT,fF,fF] rfl rfl (any_of HT_.out (by kernel_rfl)) (fun _ _ _ h=>h) (Or.inr ⟨by rfl,rfl⟩) ?_ ?_
   rotate_left
   ·simp only [Act.put,sI,sZ,sS,i64_w,i32_w]
    rfl
   refine pure_ (i:=24) (N:=some 27) (v:=?_) (a':=?_) #[tT,tT,tT,tT,tT,tT,tT,tT,tT,tT,tT,tT,tT,tT,tT,tT,tT,tT,tT,tT,tT,tT,tT,tT,tT,fF] rfl rfl (any_of HT_.out (by kernel_rfl)) (fun _ _ _ h=>h) (Or.inl ⟨by rfl,?_⟩) ?_ ?_
   rotate_left
   ·intro w'
    go_simp
    with_reducible rfl
   rotate_left
   ·simp only [Act.put,sI,sZ,sS,i64_w,i32_w]
    rfl
   refine pure_ (i:=25) (N:=some 2) (v:=?_) (a':=?_) #[tT,tT,tT,tT,tT,tT,tT,tT,tT,tT,tT,tT,tT,tT,tT,tT,tT,tT,tT,tT,tT,tT,tT,tT,tT,tT] rfl rfl (any_of HT_.out (by kernel_rfl)) (fun _ _ _ h=>h) (Or.inl ⟨by rfl,?_⟩) ?_ ?_
   rotate_left
   ·intro w'
    go_simp
    with_reducible rfl
   rotate_left
   ·simp only [Act.put,sI,sZ,sS,i64_w,i32_w]
    rfl
   refine done_ (done_of HT_.out (by kernel_rfl)) ?_
   try go_wp2
   go_ret
   exact ⟨by first|rfl|(simp [errW_none,errW_some] <;> rfl)|(simp [*,errW_none,errW_some] <;> rfl),bb HB⟩
 ·rw [if_neg c2] at H
  have c2b0:(a0_0.toList == ([]:List UInt8)) = false:=beq_eq_false_iff_ne.mpr c2
  have c2b1:(a0_0.toList != ([]:List UInt8)) = true:=bne_iff_ne.mpr c2
  obtain rfl:=Option.some.inj H
  go_enter Try.func34,Try.ntmps34
  try go_wp2_with (first|((with_reducible refine gate_dst (N:=1) rfl ?_);(try (refine gate_guard (by rfl) ?_;dsimp only));refine box_event ?hg (N:=1) ?hd (cs:=#[.string a0_0,.string a0_1]) (t:=27) ?hr ?_;(case hd=>rfl);(case hg=>rfl);(case hr=>first|(go_simp;done)|(go_simp;rfl));intro gb227 hg w17 hbox hb;have BK227:=aM (hbox);have GW227:=wl hg HB;have GE227:=wl hg HB;replace HB:=bs HB hb;clear hb hbox hg))
  replace BK227:=aM (yD BK227.out);replace HB:=aM (zD HB.out)
  refine start_ (n:=26) (S:=fun w'=>w'.cell? ⟨gb227,0,none⟩ = some (.string a0_0) ∧ w'.cell? ⟨gb227,1,none⟩ = some (.string a0_1)) (ds:=[]) #[fF,fF,fF,fF,fF,fF,fF,fF,fF,fF,fF,fF,fF,fF,fF,fF,fF,fF,fF,fF,fF,fF,fF,fF,fF,fF] (by kernel_rfl) rfl rfl ⟨(blk_cell BK227.out 0).trans rfl,(blk_cell BK227.out 1).trans rfl⟩ (fun hHeld=>?_);refine with_tabW impl_Sequence_isStar.tab1 impl_Sequence_isStar.bits1 (fun HT_ HW_=>?_)
  generalize w17.drew = w18 at BK227 HB hHeld ⊢
  refine pure_ (i:=0) (N:=some 3) (v:=?_) (a':=?_) #[tT,fF,fF,fF,fF,fF,fF,fF,fF,fF,fF,fF,fF,fF,fF,fF,fF,fF,fF,fF,fF,fF,fF,fF,fF,fF] rfl rfl (any_of HT_.out (by kernel_rfl)) (fun _ _ _ h=>h) (Or.inl ⟨by rfl,?_⟩) ?_ ?_
  rotate_left
  ·intro w'
   go_simp
   with_reducible rfl
  rotate_left
  ·simp only [Act.put,sI,sZ,sS,i64_w,i32_w]
   rfl
  refine take_ (i:=1) (N:=some 4) (v:=?_) (a':=?_) #[tT,tT,fF,fF,fF,fF,fF,fF,fF,fF,fF,fF,fF,fF,fF,fF,fF,fF,fF,fF,fF,fF,fF,fF,fF,fF] rfl rfl (take_ofW HT_.out HW_.out (by kernel_rfl)) (fun _ _ _ h=>h) (Or.inl ⟨by rfl,?_⟩) hHeld ?_ ?_
  rotate_left
  ·rintro w' ⟨s0,s1⟩
   go_simp
   with_reducible rfl
  rotate_left
  ·simp only [Act.put,sI,sZ,sS,i64_w,i32_w]
   rfl
  refine pure_ (i:=2) (N:=some 5) (v:=?_) (a':=?_) #[tT,tT,tT,fF,fF,fF,fF,fF,fF,fF,fF,fF,fF,fF,fF,fF,fF,fF,fF,fF,fF,fF,fF,fF,fF,fF] rfl rfl (any_of HT_.out (by kernel_rfl)) (fun _ _ _ h=>h) (Or.inl ⟨by rfl,?_⟩) ?_ ?_
  rotate_left
  ·intro w'
   go_simp
   with_reducible rfl
  rotate_left
  ·simp only [Act.put,sI,sZ,sS,i64_w,i32_w]
   rfl
  refine pure_ (i:=3) (N:=some 6) (v:=?_) (a':=?_) #[tT,tT,tT,tT,fF,fF,fF,fF,fF,fF,fF,fF,fF,fF,fF,fF,fF,fF,fF,fF,fF,fF,fF,fF,fF,fF] rfl rfl (any_of HT_.out (by kernel_rfl)) (fun _ _ _ h=>h) (Or.inl ⟨by rfl,?_⟩) ?_ ?_
  rotate_left
  ·intro w'
   go_simp
   with_reducible rfl
  rotate_left
  ·simp only [Act.put,sI,sZ,sS,i64_w,i32_w]
   rfl
  refine pure_ (i:=4) (N:=some 7) (v:=undef) (a':=?_) #[tT,tT,tT,tT,tT,fF,fF,fF,fF,fF,fF,fF,fF,fF,fF,fF,fF,fF,fF,fF,fF,fF,fF,fF,fF,fF] rfl rfl (any_of HT_.out (by kernel_rfl)) (fun _ _ _ h=>h) (Or.inr ⟨by rfl,rfl⟩) ?_ ?_
  rotate_left
  ·simp only [Act.put,sI,sZ,sS,i64_w,i32_w]
   rfl
  refine pure_ (i:=5) (N:=some 8) (v:=undef) (a':=?_) #[tT,tT,tT,tT,tT,tT,fF,fF,fF,fF,fF,fF,fF,fF,fF,fF,fF,fF,fF,fF,fF,fF,fF,fF,fF,fF] rfl rfl (any_of HT_.out (by kernel_rfl)) (fun _ _ _ h=>h) (Or.inr ⟨by rfl,rfl⟩) ?_ ?_
  rotate_left
  ·simp only [Act.put,sI,sZ,sS,i64_w,i32_w]
   rfl
  refine pure_ (i:=6) (N:=some 9) (v:=undef) (a':=?_) #[tT,tT,tT,tT,tT,tT,tT,fF,fF,fF,fF,fF,fF,fF,fF,fF,fF,fF,fF,fF,fF,fF,fF,fF,fF,fF] rfl rfl (any_of HT_.out (by kernel_rfl)) (fun _ _ _ h=>h) (Or.inr ⟨by rfl,rfl⟩) ?_ ?_
  rotate_left
  ·simp only [Act.put,sI,sZ,sS,i64_w,i32_w]
   rfl
  refine pure_ (i:=7) (N:=some 10) (v:=undef) (a':=?_) #[tT,tT,tT,tT,tT,tT,tT,tT,fF,fF,fF,fF,fF,fF,fF,fF,fF,fF,fF,fF,fF,fF,fF,fF,fF,fF] rfl rfl (any_of HT_.out (by kernel_rfl)) (fun _ _ _ h=>h) (Or.inr ⟨by rfl,rfl⟩) ?_ ?_
  rotate_left
  ·simp only [Act.put,sI,sZ,sS,i64_w,i32_w]
   rfl
  refine pure_ (i:=8) (N:=some 11) (v:=undef) (a':=?_) #[tT,tT,tT,tT,tT,tT,tT,tT,tT,fF,fF,fF,fF,fF,fF,fF,fF,fF,fF,fF,fF,fF,fF,fF,fF,fF] rfl rfl (any_of HT_.out (by kernel_rfl)) (fun _ _ _ h=>h) (Or.inr ⟨by rfl,rfl⟩) ?_ ?_
  rotate_left
  ·simp only [Act.put,sI,sZ,sS,i64_w,i32_w]
   rfl
  refine pure_ (i:=9) (N:=some 12) (v:=undef) (a':=?_) #[tT,tT,tT,tT,tT,tT,tT,tT,tT,tT,fF,fF,fF,fF,fF,fF,fF,fF,fF,fF,fF,fF,fF,fF,fF,fF] rfl rfl (any_of HT_.out (by kernel_rfl)) (fun _ _ _ h=>h) (Or.inr ⟨by rfl,rfl⟩) ?_ ?_
  rotate_left
  ·simp only [Act.put,sI,sZ,sS,i64_w,i32_w]
   rfl
  refine pure_ (i:=10) (N:=some 13) (v:=undef) (a':=?_) #[tT,tT,tT,tT,tT,tT,tT,tT,tT,tT,tT,fF,fF,fF,fF,fF,fF,fF,fF,fF,fF,fF,fF,fF,fF,fF] rfl rfl (any_of HT_.out (by kernel_rfl)) (fun _ _ _ h=>h) (Or.inr ⟨by rfl,rfl⟩) ?_ ?_
  rotate_left
  ·simp only [Act.put,sI,sZ,sS,i64_w,i32_w]
   rfl
  refine pure_ (i:=11) (N:=some 14) (v:=undef) (a':=?_) #[tT,tT,tT,tT,tT,tT,tT,tT,tT,tT,tT,tT,fF,fF,fF,fF,fF,fF,fF,fF,fF,fF,fF,fF,fF,fF] rfl rfl (any_of HT_.out (by kernel_rfl)) (fun _ _ _ h=>h) (Or.inr ⟨by rfl,rfl⟩) ?_ ?_
  rotate_left
  ·simp only [Act.put,sI,sZ,sS,i64_w,i32_w]
   rfl
  refine pure_ (i:=12) (N:=some 15) (v:=?_) (a':=?_) #[tT,tT,tT,tT,tT,tT,tT,tT,tT,tT,tT,tT,tT,fF,fF,fF,fF,fF,fF,fF,fF,fF,fF,fF,fF,fF] rfl rfl (any_of HT_.out (by kernel_rfl)) (fun _ _ _ h=>h) (Or.inl ⟨by rfl,?_⟩) ?_ ?_
  rotate_left
  ·intro w'
   go_simp
   with_reducible rfl
  rotate_left
  ·simp only [Act.put,sI,sZ,sS,i64_w,i32_w]
   rfl
  refine pure_ (i:=13) (N:=some 16) (v:=?_) (a':=?_) #[tT,tT,tT,tT,tT,tT,tT,tT,tT,tT,tT,tT,tT,tT,fF,fF,fF,fF,fF,fF,fF,fF,fF,fF,fF,fF] rfl rfl (any_of HT_.out (by kernel_rfl)) (fun _ _ _ h=>h) (Or.inl ⟨by rfl,?_⟩) ?_ ?_
  rotate_left
  ·intro w'
   go_simp
   with_reducible rfl
  rotate_left
  ·simp only [Act.put,sI,sZ,sS,i64_w,i32_w]
   rfl
  refine pure_ (i:=14) (N:=some 17) (v:=undef) (a':=?_) #[tT,tT,tT,tT,tT,tT,tT,tT,tT,tT,tT,tT,tT,tT,tT,fF,fF,fF,fF,fF,fF,fF,fF,fF,fF,fF] rfl rfl (any_of HT_.out (by kernel_rfl)) (fun _ _ _ h=>h) (Or.inr ⟨by rfl,rfl⟩) ?_ ?_
  rotate_left
  ·simp only [Act.put,sI,sZ,sS,i64_w,i32_w]
   rfl
  refine pure_ (i:=15) (N:=some 18) (v:=undef) (a':=?_) #[tT,tT,tT,tT,tT,tT,tT,tT,tT,tT,tT,tT,tT,tT,tT,tT,fF,fF,fF,fF,fF,fF,fF,fF,fF,fF] rfl rfl (any_of HT_.out (by kernel_rfl)) (fun _ _ _ h=>h) (Or.inr ⟨by rfl,rfl⟩) ?_ ?_
  rotate_left
  ·simp only [Act.put,sI,sZ,sS,i64_w,i32_w]
   rfl
  refine pure_ (i:=16) (N:=some 19) (v:=undef) (a':=?_) #[tT,tT,tT,tT,tT,tT,tT,tT,tT,tT,tT,tT,tT,tT,tT,tT,tT,fF,fF,fF,fF,fF,fF,fF,fF,fF] rfl rfl (any_of HT_.out (by kernel_rfl)) (fun _ _ _ h=>h) (Or.inr ⟨by rfl,rfl⟩) ?_ ?_
  rotate_left
  ·simp only [Act.put,sI,sZ,sS,i64_w,i32_w]
   rfl
  refine pure_ (i:=17) (N:=some 20) (v:=undef) (a':=?_) #[tT,tT,tT,tT,tT,tT,tT,tT,tT,tT,tT,tT,tT,tT,tT,tT,tT,tT,fF,fF,fF,fF,fF,fF,fF,fF] rfl rfl (any_of HT_.out (by kernel_rfl)) (fun _ _ _ h=>h) (Or.inr ⟨by rfl,rfl⟩) ?_ ?_
  rotate_left
  ·simp only [Act.put,sI,sZ,sS,i64_w,i32_w]
   rfl
  refine pure_ (i:=18) (N:=some 21) (v:=undef) (a':=?_) #[tT,tT,tT,tT,tT,tT,tT,tT,tT,tT,tT,tT,tT,tT,tT,tT,tT,tT,tT,fF,fF,fF,fF,fF,fF,fF] rfl rfl (any_of HT_.out (by kernel_rfl)) (fun _ _ _ h=>h) (Or.inr ⟨by rfl,rfl⟩) ?_ ?_
  rotate_left
  ·simp only [Act.put,sI,sZ,sS,i64_w,i32_w]
   rfl
  refine pure_ (i:=19) (N:=some 22) (v:=undef) (a':=?_) #[tT,tT,tT,tT,tT,tT,tT,tT,tT,tT,tT,tT,tT,tT,tT,tT,tT,tT,tT,tT,fF,fF,fF,fF,fF,fF] rfl rfl (any_of HT_.out (by kernel_rfl)) (fun _ _ _ h=>h) (Or.inr ⟨by rfl,rfl⟩) ?_ ?_
  rotate_left
  ·simp only [Act.put,sI,sZ,sS,i64_w,i32_w]
   rfl
  refine pure_ (i:=20) (N:=some 23) (v:=undef) (a':=?_) #[tT,tT,tT,tT,tT,tT,tT,tT,tT,tT,tT,tT,tT,tT,tT,tT,tT,tT,tT,tT,tT,fF,fF,fF,fF,fF] rfl rfl (any_of HT_.out (by kernel_rfl)) (fun _ _ _ h=>h) (Or.inr ⟨by rfl,rfl⟩) ?_ ?_
  rotate_left
  ·simp only [Act.put,sI,sZ,sS,i64_w,i32_w]
   rfl
  refine pure_ (i:=21) (N:=some 24) (v:=undef) (a':=?_) #[tT,tT,tT,tT,tT,tT,tT,tT,tT,tT,tT,tT,tT,tT,tT,tT,tT,tT,tT,tT,tT,tT,fF,fF,fF,fF] rfl rfl (any_of HT_.out (by kernel_rfl)) (fun _ _ _ h=>h) (Or.inr ⟨by rfl,rfl⟩) ?_ ?_
  rotate_left
  ·simp only [Act.put,sI,sZ,sS,i64_w,i32_w]
   rfl
  refine pure_ (i:=22) (N:=some 25) (v:=undef) (a':=?_) #[tT,tT,tT,tT,tT,tT,tT,tT,tT,tT,tT,tT,tT,tT,tT,tT,tT,tT,tT,tT,tT,tT,tT,fF,fF,fF] rfl rfl (any_of HT_.out (by kernel_rfl)) (fun _ _ _ h=>h) (Or.inr ⟨by rfl,rfl⟩) ?_ ?_
  rotate_left
  ·simp only [Act.put,sI,sZ,sS,i64_w,i32_w]
   rfl
  refine pure_ (i:=23) (N:=some 26) (v:=undef) (a':=?_) #[tT,tT,tT,tT,tT,tT,tT,tT,tT,tT,tT,tT,tT,tT,tT,tT,tT,tT,tT,tT,tT,tT,tT,tT,fF,fF] rfl rfl (any_of HT_.out (by kernel_rfl)) (fun _ _ _ h=>h) (Or.inr ⟨by rfl,rfl⟩) ?_ ?_
  rotate_left
  ·simp only [Act.put,sI,sZ,sS,i64_w,i32_w]
   rfl
  refine pure_ (i:=24) (N:=some 27) (v:=?_) (a':=?_) #[tT,tT,tT,tT,tT,tT,tT,tT,tT,tT,tT,tT,tT,tT,tT,tT,tT,tT,tT,tT,tT,tT,tT,tT,tT,fF] rfl rfl (any_of HT_.out (by kernel_rfl)) (fun _ _ _ h=>h) (Or.inl ⟨by rfl,?_⟩) ?_ ?_
  rotate_left
  ·intro w'
   go_simp
   with_reducible rfl
  rotate_left
  ·simp only [Act.put,sI,sZ,sS,i64_w,i32_w]
   rfl
  refine pure_ (i:=25) (N:=some 2) (v:=?_) (a':=?_) #[tT,tT,tT,tT,tT,tT,tT,tT,tT,tT,tT,tT,tT,tT,tT,tT,tT,tT,tT,tT,tT,tT,tT,tT,tT,tT] rfl rfl (any_of HT_.out (by kernel_rfl)) (fun _ _ _ h=>h) (Or.inl ⟨by rfl,?_⟩) ?_ ?_
  rotate_left
  ·intro w'
   go_simp
   with_reducible rfl
  rotate_left
  ·simp only [Act.put,sI,sZ,sS,i64_w,i32_w]
   rfl
  refine done_ (done_of HT_.out (by kernel_rfl)) ?_
  try go_wp2
  go_ret
  exact ⟨by first|rfl|(simp [errW_none,errW_some] <;> rfl)|(simp [*,errW_none,errW_some] <;> rfl),bb HB⟩
def impl_Sequence_shift.f (a0_0:ByteArray) (a0_1:ByteArray):Option (ByteArray × ByteArray):=if a0_0.toList = ([]:List UInt8) then (if 1 ≤ (a0_1.size:Int) then (if 0 ≤ 1 then (if (a0_1.extract 1 a0_1.size).size + (a0_1.extract 0 1).size ≤ 9223372036854775807 then (some ((⟨#[]⟩:ByteArray),(a0_1.extract 1 a0_1.size) ++ (a0_1.extract 0 1))) else (none)) else (none)) else (none)) else (if 1 ≤ (a0_0.size:Int) then (some (a0_0.extract 1 a0_0.size,a0_1)) else (none))
def impl_Sequence_shift.T3:Bool × List (List Nat × List Nat):=(true,[([],[]),([0],[0]),([1],[1]),([],[]),([3],[3]),([4],[4]),([2,5],[2,5]),([6],[6]),([7,0,1,2,3,4,5,6,7],[7])])
def impl_Sequence_shift.B3:List Nat:=[0,1,3,0,8,24,63,127,255]
theorem impl_Sequence_shift.tab3:rtab .any (opsOf Try.f38 3) = impl_Sequence_shift.T3:=by kernel_rfl
theorem impl_Sequence_shift.bits3:waitsOk impl_Sequence_shift.T3.2 impl_Sequence_shift.B3 = true:=by kernel_rfl
set_option maxHeartbeats 8000000 in
set_option maxRecDepth 100000 in
theorem impl_Sequence_shift.calls (a0_0:ByteArray) (a0_1:ByteArray) (r1:ByteArray) (r2:ByteArray) (w:World) (h:impl_Sequence_shift.f a0_0 a0_1 = some (r1,r2)) :
  Calls Try.prog 38 #[.agg #[.string a0_0,.string a0_1]] w fun e w'=>e = .returned (.agg #[.string r1,.string r2]) ∧ Below w.heap.size w w':=by
 have hu27:=Try.underlying27
 have HB:=aM (Below.refl w.heap.size w)
 have H:(if a0_0.toList = ([]:List UInt8) then (if 1 ≤ (a0_1.size:Int) then (if 0 ≤ 1 then (if (a0_1.extract 1 a0_1.size).size + (a0_1.extract 0 1).size ≤ 9223372036854775807 then (some ((⟨#[]⟩:ByteArray),(a0_1.extract 1 a0_1.size) ++ (a0_1.extract 0 1))) else (none)) else (none)) else (none)) else (if 1 ≤ (a0_0.size:Int) then (some (a0_0.extract 1 a0_0.size,a0_1)) else (none))) = some (r1,r2):=h
 clear h
 by_cases c2:a0_0.toList = ([]:List UInt8)
 ·rw [if_pos c2] at H
  have c2b0:(a0_0.toList == ([]:List UInt8)) = true:=beq_iff_eq.mpr c2
  have c2b1:(a0_0.toList != ([]:List UInt8)) = false:=bne_eq_false_iff_eq.mpr c2
  clear c2
  by_cases c3:1 ≤ (a0_1.size:Int)
  ·rw [if_pos c3] at H
   have c3b0:=eq_true c3
   have c3b1:decide (1 ≤ (a0_1.size:Int)) = true:=decide_eq_true c3
   clear c3
   by_cases c4:0 ≤ 1
   ·rw [if_pos c4] at H
    have c4b0:=eq_true c4
    have c4b1:decide (0 ≤ 1) = true:=decide_eq_true c4
    clear c4
    have c5b0:=eq_true (of_decide_eq_true (by first|(with_reducible assumption)|assumption):1 ≤ (a0_1.size:Int))
    by_cases c6:(a0_1.extract 1 a0_1.size).size + (a0_1.extract 0 1).size ≤ 9223372036854775807
    ·rw [if_pos c6] at H
     have c6b0:=eq_true c6
     have c6b1:decide ((a0_1.extract 1 a0_1.size).size + (a0_1.extract 0 1).size ≤ 9223372036854775807) = true:=decide_eq_true c6
     try have c6b2:(9223372036854775807 < (a0_1.extract 1 a0_1.size).size + (a0_1.extract 0 1).size) = False:=eq_false (Nat.not_lt.2 c6)
     try (have c6b3:=c6;simp at c6b3;have c6b4:=eq_false (Nat.not_lt.2 c6b3))
     simp only [Option.some.injEq,Prod.mk.injEq] at H
     obtain ⟨rfl,rfl⟩:=H
     go_enter Try.func38,Try.ntmps38
     try go_wp2_with (first|((with_reducible refine gate_dst (N:=1) rfl ?_);refine box_event ?hg (N:=1) ?hd (cs:=#[.string a0_0,.string a0_1]) (t:=27) ?hr ?_;(case hd=>rfl);(case hg=>rfl);(case hr=>first|(go_simp;done)|(go_simp;rfl));intro gb230 hg w7 hbox hb;have BK230:=aM (hbox);have GW230:=wl hg HB;have GE230:=wl hg HB;replace HB:=bs HB hb;clear hb hbox hg)|((with_reducible refine gate_dst (N:=2) rfl ?_);refine box_event ?hg (N:=2) ?hd (cs:=#[.string ⟨#[]⟩,.string ⟨#[]⟩]) (t:=27) ?hr ?_;(case hd=>rfl);(case hg=>rfl);(case hr=>first|(go_simp;done)|(go_simp;rfl));intro gb231 hg w8 hbox hb;have BK231:=aM (hbox);have GW231:=wl hg HB;have GE231:=wl hg HB;have NB230_231:=nl hg BK230;have NB231_230:=nr hg BK230;replace BK230:=kb BK230 hb;replace HB:=bs HB hb;clear hb hbox hg;have hnb9:=NB230_231.out;have hnc9:=NB231_230.out;have⟨a0,a1,b0,b1⟩:=q2f BK230))
     replace BK230:=aM (yD BK230.out);replace BK231:=aM (yD BK231.out);replace HB:=aM (zD HB.out)
     refine start_ (n:=9) (S:=fun w'=>w'.cell? ⟨gb230,0,none⟩ = some (.string a0_0) ∧ w'.cell? ⟨gb230,1,none⟩ = some (.string a0_1)) (ds:=[]) #[fF,fF,fF,fF,fF,fF,fF,fF,fF] (by kernel_rfl) rfl rfl ⟨(blk_cell BK230.out 0).trans rfl,(blk_cell BK230.out 1).trans rfl⟩ (fun hHeld=>?_);refine with_tabW impl_Sequence_shift.tab3 impl_Sequence_shift.bits3 (fun HT_ HW_=>?_)
     generalize w8.drew = w11 at BK230 BK231 HB hHeld ⊢
     refine pure_ (i:=0) (N:=some 12) (v:=?_) (a':=?_) #[tT,fF,fF,fF,fF,fF,fF,fF,fF] rfl rfl (any_of HT_.out (by kernel_rfl)) (fun _ _ _ h=>h) (Or.inl ⟨by rfl,?_⟩) ?_ ?_
     rotate_left
     ·intro w'
      go_simp
      with_reducible rfl
     rotate_left
     ·simp only [Act.put,sI,sZ,sS,i64_w,i32_w]
      rfl
     refine pure_ (i:=3) (N:=some 15) (v:=?_) (a':=?_) #[tT,fF,fF,tT,fF,fF,fF,fF,fF] rfl rfl (any_of HT_.out (by kernel_rfl)) (fun _ _ _ h=>h) (Or.inl ⟨by rfl,?_⟩) ?_ ?_
     rotate_left
     ·intro w'
      go_simp
      with_reducible rfl
     rotate_left
     ·simp only [Act.put,sI,sZ,sS,i64_w,i32_w]
      rfl
     refine take_ (i:=1) (N:=some 13) (v:=?_) (a':=?_) #[tT,tT,fF,tT,fF,fF,fF,fF,fF] rfl rfl (take_ofW HT_.out HW_.out (by kernel_rfl)) (fun _ _ _ h=>h) (Or.inl ⟨by rfl,?_⟩) hHeld ?_ ?_
     rotate_left
     ·rintro w' ⟨s0,s1⟩
      go_simp
      with_reducible rfl
     rotate_left
     ·simp only [Act.put,sI,sZ,sS,i64_w,i32_w]
      rfl
     refine pure_ (i:=2) (N:=some 14) (v:=?_) (a':=?_) #[tT,tT,tT,tT,fF,fF,fF,fF,fF] rfl rfl (any_of HT_.out (by kernel_rfl)) (fun _ _ _ h=>h) (Or.inl ⟨by rfl,?_⟩) ?_ ?_
     rotate_left
     ·intro w'
      go_simp
      with_reducible rfl
     rotate_left
     ·simp only [Act.put,sI,sZ,sS,i64_w,i32_w]
      rfl
     refine take_ (i:=4) (N:=some 16) (v:=?_) (a':=?_) #[tT,tT,tT,tT,tT,fF,fF,fF,fF] rfl rfl (take_ofW HT_.out HW_.out (by kernel_rfl)) (fun _ _ _ h=>h) (Or.inl ⟨by rfl,?_⟩) hHeld ?_ ?_
     rotate_left
     ·rintro w' ⟨s0,s1⟩
      go_simp
      with_reducible rfl
     rotate_left
     ·simp only [Act.put,sI,sZ,sS,i64_w,i32_w]
      rfl
     refine pure_ (i:=5) (N:=some 17) (v:=?_) (a':=?_) #[tT,tT,tT,tT,tT,tT,fF,fF,fF] rfl rfl (any_of HT_.out (by kernel_rfl)) (fun _ _ _ h=>h) (Or.inl ⟨by rfl,?_⟩) ?_ ?_
     rotate_left
     ·intro w'
      go_simp
      with_reducible rfl
     rotate_left
     ·simp only [Act.put,sI,sZ,sS,i64_w,i32_w]
      rfl
     refine pure_ (i:=6) (N:=some 18) (v:=?_) (a':=?_) #[tT,tT,tT,tT,tT,tT,tT,fF,fF] rfl rfl (any_of HT_.out (by kernel_rfl)) (fun _ _ _ h=>h) (Or.inl ⟨by rfl,?_⟩) ?_ ?_
     rotate_left
     ·intro w'
      go_simp
      with_reducible rfl
     rotate_left
     ·simp only [Act.put,sI,sZ,sS,i64_w,i32_w]
      rfl
     refine pure_ (i:=7) (N:=some 19) (v:=?_) (a':=?_) #[tT,tT,tT,tT,tT,tT,tT,tT,fF] rfl rfl (any_of HT_.out (by kernel_rfl)) (fun _ _ _ h=>h) (Or.inl ⟨by rfl,?_⟩) ?_ ?_
     rotate_left
     ·intro w'
      go_simp
      with_reducible rfl
     rotate_left
     ·simp only [Act.put,sI,sZ,sS,i64_w,i32_w]
      rfl
     refine one_ (i:=8) (N:=none) #[tT,tT,tT,tT,tT,tT,tT,tT,tT] rfl rfl (one_of HT_.out (by kernel_rfl)) (by decide) (fun K hK=>?_)
     have hs12:w11.cell? ⟨gb231,0,none⟩ = some (.string ⟨#[]⟩):=(blk_cell BK231.out 0).trans rfl
     have hfs12:=blk_frozen BK231.out 0
     have hns12_0:=NB230_231.out
     have hms12_0:=NB231_230.out
     have hs13:w11.cell? ⟨gb231,1,none⟩ = some (.string ⟨#[]⟩):=(blk_cell BK231.out 1).trans rfl
     have hfs13:=blk_frozen BK231.out 1
     have hns13_0:=NB230_231.out
     have hms13_0:=NB231_230.out
     refine skip_ (w1:=?_) (by rfl) rfl ?_ ?_
     rotate_left
     ·go_simp
      rfl
     refine hK.out _ _ ⟨((cell_far (p:=⟨gb231,_,none⟩) NB230_231.out _).trans (((cell_far (p:=⟨gb231,_,none⟩) NB230_231.out _).trans (hHeld.1)))),((cell_far (p:=⟨gb231,_,none⟩) NB230_231.out _).trans (((cell_far (p:=⟨gb231,_,none⟩) NB230_231.out _).trans (hHeld.2))))⟩ (fun hHeld=>?_)
     clear hK K
     refine done_ (done_of HT_.out (by kernel_rfl)) ?_
     try go_wp2
     refine bodyPost_ret (results_cell_row rfl _ _ gb231 27 #[.string ⟨#[]⟩,.string ((a0_1.extract 1 a0_1.size) ++ (a0_1.extract 0 1))] (0,0) _ rfl (by (with_reducible repeat (first|apply yN|apply yD|apply yA));refine blk_put (cs:=#[.string ⟨#[]⟩,.string ⟨#[]⟩]) ?_ 1 _ rfl;(with_reducible repeat (first|apply yN|apply yD|apply yA));refine blk_put (cs:=#[.string ⟨#[]⟩,.string ⟨#[]⟩]) ?_ 0 _ rfl;(with_reducible repeat (first|apply yN|apply yD|apply yA));exact BK231.out) Try.underlying27 rfl (by kernel_rfl)) rfl ?_
     exact ⟨by first|rfl|(simp [errW_none,errW_some] <;> rfl)|(simp [*,errW_none,errW_some] <;> rfl),by first|exact bb HB|exact bg HB GE230|exact bg HB GE231⟩
    ·rw [if_neg c6] at H
     exact absurd H (by simp)
   ·rw [if_neg c4] at H
    exact absurd H (by simp)
  ·rw [if_neg c3] at H
   exact absurd H (by simp)
 ·rw [if_neg c2] at H
  have c2b0:(a0_0.toList == ([]:List UInt8)) = false:=beq_eq_false_iff_ne.mpr c2
  have c2b1:(a0_0.toList != ([]:List UInt8)) = true:=bne_iff_ne.mpr c2
  by_cases c14:1 ≤ (a0_0.size:Int)
  ·rw [if_pos c14] at H
   have c14b0:=eq_true c14
   have c14b1:decide (1 ≤ (a0_0.size:Int)) = true:=decide_eq_true c14
   clear c14
   simp only [Option.some.injEq,Prod.mk.injEq] at H
   obtain ⟨rfl,rfl⟩:=H
   go_enter Try.func38,Try.ntmps38
   try go_wp2_with (first|((with_reducible refine gate_dst (N:=1) rfl ?_);refine box_event ?hg (N:=1) ?hd (cs:=#[.string a0_0,.string a0_1]) (t:=27) ?hr ?_;(case hd=>rfl);(case hg=>rfl);(case hr=>first|(go_simp;done)|(go_simp;rfl));intro gb230 hg w15 hbox hb;have BK230:=aM (hbox);have GW230:=wl hg HB;have GE230:=wl hg HB;replace HB:=bs HB hb;clear hb hbox hg)|((with_reducible refine gate_dst (N:=2) rfl ?_);refine box_event ?hg (N:=2) ?hd (cs:=#[.string ⟨#[]⟩,.string ⟨#[]⟩]) (t:=27) ?hr ?_;(case hd=>rfl);(case hg=>rfl);(case hr=>first|(go_simp;done)|(go_simp;rfl));intro gb231 hg w16 hbox hb;have BK231:=aM (hbox);have GW231:=wl hg HB;have GE231:=wl hg HB;have NB230_231:=nl hg BK230;have NB231_230:=nr hg BK230;replace BK230:=kb BK230 hb;replace HB:=bs HB hb;clear hb hbox hg;have hnb17:=NB230_231.out;have hnc17:=NB231_230.out;have⟨a0,a1,b0,b1⟩:=q2f BK230))
   replace BK230:=aM (yD BK230.out);replace BK231:=aM (yD BK231.out);replace HB:=aM (zD HB.out)
   refine start_ (n:=7) (S:=fun w'=>w'.cell? ⟨gb230,0,none⟩ = some (.string a0_0) ∧ w'.cell? ⟨gb230,1,none⟩ = some (.string a0_1)) (ds:=[]) #[fF,fF,fF,fF,fF,fF,fF] (by kernel_rfl) rfl rfl ⟨(blk_cell BK230.out 0).trans rfl,(blk_cell BK230.out 1).trans rfl⟩ (fun hHeld=>?_)
   generalize w16.drew = w19 at BK230 BK231 HB hHeld ⊢
   refine pure_ (i:=0) (N:=some 6) (v:=?_) (a':=?_) #[tT,fF,fF,fF,fF,fF,fF] rfl rfl (by kernel_rfl) (fun _ _ _ h=>h) (Or.inl ⟨by rfl,?_⟩) ?_ ?_
   rotate_left
   ·intro w'
    go_simp
    with_reducible rfl
   rotate_left
   ·simp only [Act.put,sI,sZ,sS,i64_w,i32_w]
    rfl
   refine pure_ (i:=3) (N:=some 9) (v:=?_) (a':=?_) #[tT,fF,fF,tT,fF,fF,fF] rfl rfl (by kernel_rfl) (fun _ _ _ h=>h) (Or.inl ⟨by rfl,?_⟩) ?_ ?_
   rotate_left
   ·intro w'
    go_simp
    with_reducible rfl
   rotate_left
   ·simp only [Act.put,sI,sZ,sS,i64_w,i32_w]
    rfl
   refine take_ (i:=1) (N:=some 7) (v:=?_) (a':=?_) #[tT,tT,fF,tT,fF,fF,fF] rfl rfl (by kernel_rfl) (fun _ _ _ h=>h) (Or.inl ⟨by rfl,?_⟩) hHeld ?_ ?_
   rotate_left
   ·rintro w' ⟨s0,s1⟩
    go_simp
    with_reducible rfl
   rotate_left
   ·simp only [Act.put,sI,sZ,sS,i64_w,i32_w]
    rfl
   refine pure_ (i:=2) (N:=some 8) (v:=?_) (a':=?_) #[tT,tT,tT,tT,fF,fF,fF] rfl rfl (by kernel_rfl) (fun _ _ _ h=>h) (Or.inl ⟨by rfl,?_⟩) ?_ ?_
   rotate_left
   ·intro w'
    go_simp
    with_reducible rfl
   rotate_left
   ·simp only [Act.put,sI,sZ,sS,i64_w,i32_w]
    rfl
   refine take_ (i:=4) (N:=some 10) (v:=?_) (a':=?_) #[tT,tT,tT,tT,tT,fF,fF] rfl rfl (by kernel_rfl) (fun _ _ _ h=>h) (Or.inl ⟨by rfl,?_⟩) hHeld ?_ ?_
   rotate_left
   ·rintro w' ⟨s0,s1⟩
    go_simp
    with_reducible rfl
   rotate_left
   ·simp only [Act.put,sI,sZ,sS,i64_w,i32_w]
    rfl
   refine pure_ (i:=5) (N:=some 11) (v:=?_) (a':=?_) #[tT,tT,tT,tT,tT,tT,fF] rfl rfl (by kernel_rfl) (fun _ _ _ h=>h) (Or.inl ⟨by rfl,?_⟩) ?_ ?_
   rotate_left
   ·intro w'
    go_simp
    with_reducible rfl
   rotate_left
   ·simp only [Act.put,sI,sZ,sS,i64_w,i32_w]
    rfl
   refine one_ (i:=6) (N:=none) #[tT,tT,tT,tT,tT,tT,tT] rfl rfl (by kernel_rfl) (by decide) (fun K hK=>?_)
   have hs20:w19.cell? ⟨gb231,0,none⟩ = some (.string ⟨#[]⟩):=(blk_cell BK231.out 0).trans rfl
   have hfs20:=blk_frozen BK231.out 0
   have hns20_0:=NB230_231.out
   have hms20_0:=NB231_230.out
   have hs21:w19.cell? ⟨gb231,1,none⟩ = some (.string ⟨#[]⟩):=(blk_cell BK231.out 1).trans rfl
   have hfs21:=blk_frozen BK231.out 1
   have hns21_0:=NB230_231.out
   have hms21_0:=NB231_230.out
   refine skip_ (w1:=?_) (by rfl) rfl ?_ ?_
   rotate_left
   ·go_simp
    rfl
   refine hK.out _ _ ⟨((cell_far (p:=⟨gb231,_,none⟩) NB230_231.out _).trans (((cell_far (p:=⟨gb231,_,none⟩) NB230_231.out _).trans (hHeld.1)))),((cell_far (p:=⟨gb231,_,none⟩) NB230_231.out _).trans (((cell_far (p:=⟨gb231,_,none⟩) NB230_231.out _).trans (hHeld.2))))⟩ (fun hHeld=>?_)
   clear hK K
   refine done_ (by kernel_rfl) ?_
   try go_wp2
   refine bodyPost_ret (results_cell_row rfl _ _ gb231 27 #[.string (a0_0.extract 1 a0_0.size),.string a0_1] (0,0) _ rfl (by (with_reducible repeat (first|apply yN|apply yD|apply yA));refine blk_put (cs:=#[.string (a0_0.extract 1 a0_0.size),.string ⟨#[]⟩]) ?_ 1 _ rfl;(with_reducible repeat (first|apply yN|apply yD|apply yA));refine blk_put (cs:=#[.string ⟨#[]⟩,.string ⟨#[]⟩]) ?_ 0 _ rfl;(with_reducible repeat (first|apply yN|apply yD|apply yA));exact BK231.out) Try.underlying27 rfl (by kernel_rfl)) rfl ?_
   exact ⟨by first|rfl|(simp [errW_none,errW_some] <;> rfl)|(simp [*,errW_none,errW_some] <;> rfl),by first|exact bb HB|exact bg HB GE230|exact bg HB GE231⟩
  ·rw [if_neg c14] at H
   exact absurd H (by simp)
end Go.Proofs.Ytbiehbmojbmnoaa.Q
end
section
namespace Go.Proofs.Ytbiehbmojbmnoaa.Q
open Go.Proofs.YtbiehbmojbmnoaaW.Ext
open Go.RowKit Go.Proofs.YtbiehbmojbmnoaaW.PrintWords Go.Proofs.YtbiehbmojbmnoaaW.PrintLast Go.Proofs.YtbiehbmojbmnoaaW.PrintMore
attribute [local go_sem] max2_int min2_int max_two min_two max_three min_three max_four min_four   -- for this text's walks alone
set_option linter.unusedVariables false
set_option linter.unusedSimpArgs false
attribute [local go_sem high] eqA27
def impl_Sequence_isPoint.l0:Nat → Int → Int → ByteArray → ByteArray → ByteArray → ByteArray → Option (Bool)
 | 0,_,_,_,_,_,_=>none
 | k + 1,x12,x13,x233000,x233001,x234000,x234001=>if x13 < x12 then ((impl_Sequence_shift.f x234000 x234001).bind fun bt234=>((impl_Sequence_at.f x234000 x234001 0).bind fun t237=>(if t237 = 42 then (if (!(bt234.1.toList == x233000.toList) || (!(bt234.2.toList == x233001.toList))) = true then (some false) else (impl_Sequence_isPoint.l0 k x12 (wrap64 (x13 + 1)) x233000 x233001 bt234.1 bt234.2)) else (impl_Sequence_isPoint.l0 k x12 (wrap64 (x13 + 1)) x233000 x233001 bt234.1 bt234.2)))) else (some true)
def impl_Sequence_isPoint.f (k:Nat) (a0_0:ByteArray) (a0_1:ByteArray) (a1_0:ByteArray) (a1_1:ByteArray):Option (Bool):=impl_Sequence_isPoint.l0 k (wrap64 ((a1_0.size:Int) + (a1_1.size:Int))) 0 a0_0 a0_1 a1_0 a1_1
theorem impl_Sequence_isPoint.mono_l:∀ k,(∀ y0 y1 y2 y3 y4 y5,LeO (impl_Sequence_isPoint.l0 k y0 y1 y2 y3 y4 y5) (impl_Sequence_isPoint.l0 (k + 1) y0 y1 y2 y3 y4 y5))
 | 0=>fun _ _ _ _ _ _ r h=>by simp [impl_Sequence_isPoint.l0] at h
 | k + 1=>by
  have ih0:=impl_Sequence_isPoint.mono_l k
  ·intro y0 y1 y2 y3 y4 y5
   unfold impl_Sequence_isPoint.l0
   repeat' first
   | (with_reducible exact ih0 _ _ _ _ _ _)
   | (with_reducible exact LeO.refl _)
   | (with_reducible exact LeO.none _)
   | (with_reducible refine LeO.ite ?_ ?_)
   | (with_reducible refine LeO.bind ?_ (fun _=>?_))
   | exact ih0 _ _ _ _ _ _
   | exact LeO.none _
   | refine LeO.ite ?_ ?_
   | refine LeO.bind ?_ (fun _=>?_)
theorem impl_Sequence_isPoint.mono:∀ a0 a1 a2 a3 k,LeO (impl_Sequence_isPoint.f k a0 a1 a2 a3) (impl_Sequence_isPoint.f (k + 1) a0 a1 a2 a3):=by
 intro a0 a1 a2 a3 k
 have ih0:=impl_Sequence_isPoint.mono_l k
 unfold impl_Sequence_isPoint.f
 repeat' first
   | (with_reducible exact ih0 _ _ _ _ _ _)
   | (with_reducible exact LeO.refl _)
   | (with_reducible exact LeO.none _)
   | (with_reducible refine LeO.ite ?_ ?_)
   | (with_reducible refine LeO.bind ?_ (fun _=>?_))
   | exact ih0 _ _ _ _ _ _
   | exact LeO.none _
   | refine LeO.ite ?_ ?_
   | refine LeO.bind ?_ (fun _=>?_)
set_option maxHeartbeats 8000000 in
set_option maxRecDepth 100000 in
theorem impl_Sequence_isPoint.calls (k:Nat) (a0_0:ByteArray) (a0_1:ByteArray) (a1_0:ByteArray) (a1_1:ByteArray) (r:Bool) (w:World) (h:impl_Sequence_isPoint.f k a0_0 a0_1 a1_0 a1_1 = some r) :
  Calls Try.prog 35 #[.agg #[.string a0_0,.string a0_1],.agg #[.string a1_0,.string a1_1]] w fun e w'=>e = .returned (.bool r) ∧ Below w.heap.size w w':=by
 have hu27:=Try.underlying27
 have HB:=aM (Below.refl w.heap.size w)
 have H:(impl_Sequence_isPoint.l0 k (wrap64 ((a1_0.size:Int) + (a1_1.size:Int))) 0 a0_0 a0_1 a1_0 a1_1) = some r:=h
 clear h
 have H':=aM H
 clear H
 go_enter Try.func35,Try.ntmps35
 go_wp2_with (first|((with_reducible refine gate_dst (N:=2) rfl ?_);refine box_event ?hg (N:=2) ?hd (cs:=#[.string a0_0,.string a0_1]) (t:=27) ?hr ?_;(case hd=>rfl);(case hg=>rfl);(case hr=>first|(go_simp;done)|(go_simp;rfl));intro gb232 hg w3 hbox hb;have BK232:=aM (hbox);have GW232:=wl hg HB;have GE232:=wl hg HB;replace HB:=bs HB hb;clear hb hbox hg)|((with_reducible refine gate_dst (N:=3) rfl ?_);refine box_event ?hg (N:=3) ?hd (cs:=#[.string a1_0,.string a1_1]) (t:=27) ?hr ?_;(case hd=>rfl);(case hg=>rfl);(case hr=>first|(go_simp;done)|(go_simp;rfl));intro gb233 hg w4 hbox hb;have BK233:=aM (hbox);have GW233:=wl hg HB;have GE233:=wl hg HB;have NB232_233:=nl hg BK232;have NB233_232:=nr hg BK232;replace BK232:=kb BK232 hb;replace HB:=bs HB hb;clear hb hbox hg;have hnb5:=NB233_232.out;have hnc5:=NB232_233.out;have⟨a0,a1,b0,b1⟩:=q2f BK233))
 go_loopg [13] k (fun kq v13 w'=>∃ (x13_1:Int) (x234000_1:ByteArray) (x234001_1:ByteArray),v13 = .int .i64 x13_1 ∧ Aside0 (impl_Sequence_isPoint.l0 kq (wrap64 ((a1_0.size:Int) + (a1_1.size:Int))) x13_1 a0_0 a0_1 x234000_1 x234001_1 = some r) ∧ Aside0 (kq ≤ k) ∧ Aside0 (w'.heap[gb232]? = some (.cells #[.string a0_0,.string a0_1] 27 (0,0))) ∧ Aside0 (w'.heap[gb233]? = some (.cells #[.string x234000_1,.string x234001_1] 27 (0,0))) ∧ Aside0 (Below w.heap.size w w'))
 case atStart=>exact ⟨(0),(a1_0),(a1_1),(by first|rfl|(simp;done)|(simp [*];done)),H',⟨Nat.le_refl _⟩,⟨bk BK232⟩,⟨bk BK233⟩,⟨bb HB⟩⟩
 case round =>
  clear H'
  try clear p2
  try clear c3
  try clear c5
  try clear p6
  try clear hcz6_0
  try clear hcz6_1
  try clear hfz6_0
  try clear hfz6_1
  obtain ⟨x13_1,x234000_1,x234001_1,rfl,HA,HK1,BK232,BK233,HB⟩:=hrel
  cases gk with
  | zero=>exact absurd HA.out (by simp [impl_Sequence_isPoint.l0])
  | succ k1 =>
   have H:=HA.out
   clear HA
   simp only [impl_Sequence_isPoint.l0] at H
   by_cases c7:x13_1 < (wrap64 ((a1_0.size:Int) + (a1_1.size:Int)))
   ·rw [if_pos c7] at H
    have c7b0:decide (x13_1 < (wrap64 ((a1_0.size:Int) + (a1_1.size:Int)))) = true:=decide_eq_true c7
    clear c7
    replace H:=Option.bind_eq_some_iff.mp H
    obtain ⟨⟨t234,t235⟩,A80,H⟩:=H
    replace H:((impl_Sequence_at.f x234000_1 x234001_1 0).bind fun t237=>(if t237 = 42 then (if (!(t234.toList == a0_0.toList) || (!(t235.toList == a0_1.toList))) = true then (some false) else (impl_Sequence_isPoint.l0 k1 (wrap64 ((a1_0.size:Int) + (a1_1.size:Int))) (wrap64 (x13_1 + 1)) a0_0 a0_1 t234 t235)) else (impl_Sequence_isPoint.l0 k1 (wrap64 ((a1_0.size:Int) + (a1_1.size:Int))) (wrap64 (x13_1 + 1)) a0_0 a0_1 t234 t235))) = some r:=H;have A8:=aM A80
    clear A80
    replace H:=Option.bind_eq_some_iff.mp H
    obtain ⟨t237,A90,H⟩:=H
    replace H:(if t237 = 42 then (if (!(t234.toList == a0_0.toList) || (!(t235.toList == a0_1.toList))) = true then (some false) else (impl_Sequence_isPoint.l0 k1 (wrap64 ((a1_0.size:Int) + (a1_1.size:Int))) (wrap64 (x13_1 + 1)) a0_0 a0_1 t234 t235)) else (impl_Sequence_isPoint.l0 k1 (wrap64 ((a1_0.size:Int) + (a1_1.size:Int))) (wrap64 (x13_1 + 1)) a0_0 a0_1 t234 t235)) = some r:=H;have A9:=aM A90
    clear A90
    by_cases c10:t237 = 42
    ·rw [if_pos c10] at H
     have c10b0:(t237 == 42) = true:=beq_iff_eq.mpr c10
     have c10b1:(t237 != 42) = false:=bne_eq_false_iff_eq.mpr c10
     clear c10
     by_cases c11:(!(t234.toList == a0_0.toList) || (!(t235.toList == a0_1.toList))) = true
     ·rw [if_pos c11] at H
      have c11b0:(!(t234.toList == a0_0.toList) || (!(t235.toList == a0_1.toList))) = true:=c11
      clear c11
      obtain rfl:=Option.some.inj H
      have hnb12:=NB233_232.out
      have hnc12:=NB232_233.out
      have⟨a0,a1,b0,b1⟩:=q2f BK233
      go_wp2_with (first|((with_reducible refine gate_callee (f:=38) rfl ?_);refine goesL_ (some 16) rfl rfl Try.func38 (by kernel_rfl) rfl #[.agg #[.string x234000_1,.string x234001_1]] rfl (by (try simp only [sM,sC,sN]);first|done|rfl|(simp only [List.length_drop,List.length_take];rfl)) ?_;(with_reducible refine (impl_Sequence_shift.calls x234000_1 x234001_1 t234 t235 _ A8.out).mono ?_);rintro e w14 ⟨rfl,hb⟩;refine ⟨_,rfl,?_⟩;replace BK232:=kb BK232 hb;replace BK233:=kb BK233 hb;replace HB:=aM (below_step (by first|exact bb HB|exact bg HB GE232|exact bg HB GE233) hb);(try clear hb))|((with_reducible refine gate_dst (N:=5) rfl ?_);refine box_event ?hg (N:=5) ?hd (cs:=#[.string ⟨#[]⟩,.string ⟨#[]⟩]) (t:=27) ?hr ?_;(case hd=>rfl);(case hg=>rfl);(case hr=>first|(go_simp;done)|(go_simp;rfl));intro gb236 hg w15 hbox hb;have BK236:=aM (hbox);have GW236:=aM ((by rw [hg];exact (below_size (by first|exact bb HB|exact bg HB GE232|exact bg HB GE233)):w.heap.size ≤ gb236));have GE236:=aM ((by rw [hg];exact (below_size (by first|exact bb HB|exact bg HB GE232|exact bg HB GE233)):w.heap.size ≤ gb236));have NB232_236:=nl hg BK232;have NB236_232:=nr hg BK232;have NB233_236:=nl hg BK233;have NB236_233:=nr hg BK233;replace BK232:=kb BK232 hb;replace BK233:=kb BK233 hb;replace HB:=aM (below_step (by first|exact bb HB|exact bg HB GE232|exact bg HB GE233) hb);clear hb hbox hg;have hnb16:=NB236_232.out;have hnc16:=NB232_236.out;have hnb17:=NB236_233.out;have hnc17:=NB233_236.out;have⟨a0,a1,b0,b1⟩:=q2f BK236;have⟨a0,a1,b0,b1⟩:=q2f BK233)|((with_reducible refine gate_callee (f:=37) rfl ?_);refine goesL_ (some 18) rfl rfl Try.func37 (by kernel_rfl) rfl #[.agg #[.string x234000_1,.string x234001_1],.int .i64 0] rfl (by (try simp only [sM,sC,sN]);first|done|rfl|(simp only [List.length_drop,List.length_take];rfl)) ?_;(with_reducible refine (impl_Sequence_at.calls x234000_1 x234001_1 0 t237 _ A9.out).mono ?_);rintro e w20 ⟨rfl,hb⟩;refine ⟨_,rfl,?_⟩;replace BK232:=kf BK232 NB232_236 hb;replace BK233:=kf BK233 NB233_236 hb;replace BK236:=aM (blk_below (g:=gb236) (o:=.cells #[.string t234,.string t235] 27 (0,0)) (by (with_reducible repeat (first|apply yN|apply yD|apply yA));refine blk_put (cs:=#[.string t234,.string ⟨#[]⟩]) ?_ 1 _ rfl;(with_reducible repeat (first|apply yN|apply yD|apply yA));refine blk_put (cs:=#[.string ⟨#[]⟩,.string ⟨#[]⟩]) ?_ 0 _ rfl;(with_reducible repeat (first|apply yN|apply yD|apply yA));exact BK236.out) hb);replace HB:=aM (below_step (by first|exact bb HB|exact bg HB GE232|exact bg HB GE233|exact bg HB GE236) hb);(try clear hb);have⟨a0,a1,b0,b1⟩:=q2f BK236;have⟨a0,a1,b0,b1⟩:=q2f BK232))
      go_ret
      exact ⟨by first|rfl|(simp [errW_none,errW_some] <;> rfl)|(simp [*,errW_none,errW_some] <;> rfl),bb HB⟩
     ·rw [if_neg c11] at H
      have c11b0:(!(t234.toList == a0_0.toList) || (!(t235.toList == a0_1.toList))) = false:=by simpa using c11
      clear c11
      have H':=aM H
      clear H
      have hnb23:=NB233_232.out
      have hnc23:=NB232_233.out
      have⟨a0,a1,b0,b1⟩:=q2f BK233
      go_wp2_with (first|((with_reducible refine gate_callee (f:=38) rfl ?_);refine goesL_ (some 16) rfl rfl Try.func38 (by kernel_rfl) rfl #[.agg #[.string x234000_1,.string x234001_1]] rfl (by (try simp only [sM,sC,sN]);first|done|rfl|(simp only [List.length_drop,List.length_take];rfl)) ?_;(with_reducible refine (impl_Sequence_shift.calls x234000_1 x234001_1 t234 t235 _ A8.out).mono ?_);rintro e w25 ⟨rfl,hb⟩;refine ⟨_,rfl,?_⟩;replace BK232:=kb BK232 hb;replace BK233:=kb BK233 hb;replace HB:=aM (below_step (by first|exact bb HB|exact bg HB GE232|exact bg HB GE233) hb);(try clear hb))|((with_reducible refine gate_dst (N:=5) rfl ?_);refine box_event ?hg (N:=5) ?hd (cs:=#[.string ⟨#[]⟩,.string ⟨#[]⟩]) (t:=27) ?hr ?_;(case hd=>rfl);(case hg=>rfl);(case hr=>first|(go_simp;done)|(go_simp;rfl));intro gb236 hg w26 hbox hb;have BK236:=aM (hbox);have GW236:=aM ((by rw [hg];exact (below_size (by first|exact bb HB|exact bg HB GE232|exact bg HB GE233)):w.heap.size ≤ gb236));have GE236:=aM ((by rw [hg];exact (below_size (by first|exact bb HB|exact bg HB GE232|exact bg HB GE233)):w.heap.size ≤ gb236));have NB232_236:=nl hg BK232;have NB236_232:=nr hg BK232;have NB233_236:=nl hg BK233;have NB236_233:=nr hg BK233;replace BK232:=kb BK232 hb;replace BK233:=kb BK233 hb;replace HB:=aM (below_step (by first|exact bb HB|exact bg HB GE232|exact bg HB GE233) hb);clear hb hbox hg;have hnb27:=NB236_232.out;have hnc27:=NB232_236.out;have hnb28:=NB236_233.out;have hnc28:=NB233_236.out;have⟨a0,a1,b0,b1⟩:=q2f BK236;have⟨a0,a1,b0,b1⟩:=q2f BK233)|((with_reducible refine gate_callee (f:=37) rfl ?_);refine goesL_ (some 18) rfl rfl Try.func37 (by kernel_rfl) rfl #[.agg #[.string x234000_1,.string x234001_1],.int .i64 0] rfl (by (try simp only [sM,sC,sN]);first|done|rfl|(simp only [List.length_drop,List.length_take];rfl)) ?_;(with_reducible refine (impl_Sequence_at.calls x234000_1 x234001_1 0 t237 _ A9.out).mono ?_);rintro e w31 ⟨rfl,hb⟩;refine ⟨_,rfl,?_⟩;replace BK232:=kf BK232 NB232_236 hb;replace BK233:=kf BK233 NB233_236 hb;replace BK236:=aM (blk_below (g:=gb236) (o:=.cells #[.string t234,.string t235] 27 (0,0)) (by (with_reducible repeat (first|apply yN|apply yD|apply yA));refine blk_put (cs:=#[.string t234,.string ⟨#[]⟩]) ?_ 1 _ rfl;(with_reducible repeat (first|apply yN|apply yD|apply yA));refine blk_put (cs:=#[.string ⟨#[]⟩,.string ⟨#[]⟩]) ?_ 0 _ rfl;(with_reducible repeat (first|apply yN|apply yD|apply yA));exact BK236.out) hb);replace HB:=aM (below_step (by first|exact bb HB|exact bg HB GE232|exact bg HB GE233|exact bg HB GE236) hb);(try clear hb);have⟨a0,a1,b0,b1⟩:=q2f BK236;have⟨a0,a1,b0,b1⟩:=q2f BK232;have⟨a0,a1,b0,b1⟩:=q2f BK233))
      go_roundg k1
      case measure=>have:=HK1.out;omega
      case rel=>exact ⟨(wrap64 (x13_1 + 1)),(t234),(t235),(by first|rfl|(simp;done)|(simp [*];done)),H',⟨by have:=HK1.out;omega⟩,⟨bf BK232 NB232_233⟩,⟨by (with_reducible repeat (first|apply yN|apply yD|apply yA));refine blk_put (cs:=#[.string t234,.string x234001_1]) ?_ 1 _ rfl;(with_reducible repeat (first|apply yN|apply yD|apply yA));refine blk_put (cs:=#[.string x234000_1,.string x234001_1]) ?_ 0 _ rfl;(with_reducible repeat (first|apply yN|apply yD|apply yA));exact BK233.out⟩,⟨by first|exact bb HB|exact bg HB GE232|exact bg HB GE233|exact bg HB GE236⟩⟩
    ·rw [if_neg c10] at H
     have c10b0:(t237 == 42) = false:=beq_eq_false_iff_ne.mpr c10
     have c10b1:(t237 != 42) = true:=bne_iff_ne.mpr c10
     have H':=aM H
     clear H
     have hnb35:=NB233_232.out
     have hnc35:=NB232_233.out
     have⟨a0,a1,b0,b1⟩:=q2f BK233
     go_wp2_with (first|((with_reducible refine gate_callee (f:=38) rfl ?_);refine goesL_ (some 16) rfl rfl Try.func38 (by kernel_rfl) rfl #[.agg #[.string x234000_1,.string x234001_1]] rfl (by (try simp only [sM,sC,sN]);first|done|rfl|(simp only [List.length_drop,List.length_take];rfl)) ?_;(with_reducible refine (impl_Sequence_shift.calls x234000_1 x234001_1 t234 t235 _ A8.out).mono ?_);rintro e w37 ⟨rfl,hb⟩;refine ⟨_,rfl,?_⟩;replace BK232:=kb BK232 hb;replace BK233:=kb BK233 hb;replace HB:=aM (below_step (by first|exact bb HB|exact bg HB GE232|exact bg HB GE233) hb);(try clear hb))|((with_reducible refine gate_dst (N:=5) rfl ?_);refine box_event ?hg (N:=5) ?hd (cs:=#[.string ⟨#[]⟩,.string ⟨#[]⟩]) (t:=27) ?hr ?_;(case hd=>rfl);(case hg=>rfl);(case hr=>first|(go_simp;done)|(go_simp;rfl));intro gb236 hg w38 hbox hb;have BK236:=aM (hbox);have GW236:=aM ((by rw [hg];exact (below_size (by first|exact bb HB|exact bg HB GE232|exact bg HB GE233)):w.heap.size ≤ gb236));have GE236:=aM ((by rw [hg];exact (below_size (by first|exact bb HB|exact bg HB GE232|exact bg HB GE233)):w.heap.size ≤ gb236));have NB232_236:=nl hg BK232;have NB236_232:=nr hg BK232;have NB233_236:=nl hg BK233;have NB236_233:=nr hg BK233;replace BK232:=kb BK232 hb;replace BK233:=kb BK233 hb;replace HB:=aM (below_step (by first|exact bb HB|exact bg HB GE232|exact bg HB GE233) hb);clear hb hbox hg;have hnb39:=NB236_232.out;have hnc39:=NB232_236.out;have hnb40:=NB236_233.out;have hnc40:=NB233_236.out;have⟨a0,a1,b0,b1⟩:=q2f BK236;have⟨a0,a1,b0,b1⟩:=q2f BK233)|((with_reducible refine gate_callee (f:=37) rfl ?_);refine goesL_ (some 18) rfl rfl Try.func37 (by kernel_rfl) rfl #[.agg #[.string x234000_1,.string x234001_1],.int .i64 0] rfl (by (try simp only [sM,sC,sN]);first|done|rfl|(simp only [List.length_drop,List.length_take];rfl)) ?_;(with_reducible refine (impl_Sequence_at.calls x234000_1 x234001_1 0 t237 _ A9.out).mono ?_);rintro e w43 ⟨rfl,hb⟩;refine ⟨_,rfl,?_⟩;replace BK232:=kf BK232 NB232_236 hb;replace BK233:=kf BK233 NB233_236 hb;replace BK236:=aM (blk_below (g:=gb236) (o:=.cells #[.string t234,.string t235] 27 (0,0)) (by (with_reducible repeat (first|apply yN|apply yD|apply yA));refine blk_put (cs:=#[.string t234,.string ⟨#[]⟩]) ?_ 1 _ rfl;(with_reducible repeat (first|apply yN|apply yD|apply yA));refine blk_put (cs:=#[.string ⟨#[]⟩,.string ⟨#[]⟩]) ?_ 0 _ rfl;(with_reducible repeat (first|apply yN|apply yD|apply yA));exact BK236.out) hb);replace HB:=aM (below_step (by first|exact bb HB|exact bg HB GE232|exact bg HB GE233|exact bg HB GE236) hb);(try clear hb);have⟨a0,a1,b0,b1⟩:=q2f BK236;have⟨a0,a1,b0,b1⟩:=q2f BK233))
     go_roundg k1
     case measure=>have:=HK1.out;omega
     case rel=>exact ⟨(wrap64 (x13_1 + 1)),(t234),(t235),(by first|rfl|(simp;done)|(simp [*];done)),H',⟨by have:=HK1.out;omega⟩,⟨bf BK232 NB232_233⟩,⟨by (with_reducible repeat (first|apply yN|apply yD|apply yA));refine blk_put (cs:=#[.string t234,.string x234001_1]) ?_ 1 _ rfl;(with_reducible repeat (first|apply yN|apply yD|apply yA));refine blk_put (cs:=#[.string x234000_1,.string x234001_1]) ?_ 0 _ rfl;(with_reducible repeat (first|apply yN|apply yD|apply yA));exact BK233.out⟩,⟨by first|exact bb HB|exact bg HB GE232|exact bg HB GE233|exact bg HB GE236⟩⟩
   ·rw [if_neg c7] at H
    have c7b0:decide (x13_1 < (wrap64 ((a1_0.size:Int) + (a1_1.size:Int)))) = false:=decide_eq_false c7
    clear c7
    obtain rfl:=Option.some.inj H
    go_wp2
    go_ret
    exact ⟨by first|rfl|(simp [errW_none,errW_some] <;> rfl)|(simp [*,errW_none,errW_some] <;> rfl),bb HB⟩
end Go.Proofs.Ytbiehbmojbmnoaa.Q
end
section
namespace Go.Proofs.Ytbiehbmojbmnoaa.Q
open Go.Proofs.YtbiehbmojbmnoaaW.Ext
open Go.RowKit Go.Proofs.YtbiehbmojbmnoaaW.PrintWords Go.Proofs.YtbiehbmojbmnoaaW.PrintLast Go.Proofs.YtbiehbmojbmnoaaW.PrintMore
attribute [local go_sem] max2_int min2_int max_two min_two max_three min_three max_four min_four   -- for this text's walks alone
set_option linter.unusedVariables false
set_option linter.unusedSimpArgs false
set_option maxHeartbeats 1000000 in
theorem indexFunc_Sequence.calls (g:Nat) (lb:Array Value) (eg:∀ args w,(callFunc g args).run Try.prog w = .ok (.enter g args) w) (p:S27 → Option Bool) (A0:Option Addr) (c0:Nat) (l0:List S27) (r:Int) (w:World)
  (hr0:Kd.C k27 w A0 l0.length l0) (hc0:l0.length ≤ c0)
  (hp:∀ W x b,Below w.heap.size w W → p x = some b → Calls Try.prog g (#[.agg #[.string x.f0,.string x.f1]] ++ lb) W fun e w'=>e = .returned (.bool b) ∧ Below W.heap.size W w')
  (h:idxGo p 0 l0 = some r) :
  Calls Try.prog 48 #[.slice A0 l0.length c0,.func (.func g) #[] lb] w fun e w'=>e = .returned (.int .i64 r) ∧ Below w.heap.size w w':=by
 have hm:=Kd.C_max hr0
 have HR:=aM hr0;have H0:=aM h;have HP:=aM hp
 clear hr0 h hp
 go_enter Try.func48,Try.ntmps48
 go_wp2
 go_loopg [8] l0.length (fun gg i wr=>∃ k:Nat,k ≤ l0.length ∧ l0.length - k ≤ gg ∧ i = .int .i64 k ∧ Aside0 (idxGo p k (l0.drop k) = some r) ∧ Aside0 (Below w.heap.size w wr))
 case atStart=>exact ⟨0,Nat.zero_le _,by omega,rfl,aM (by simpa using H0.out),aM (Below.refl _ _)⟩
 case round =>
  obtain ⟨k,hk,hg,rfl,HJ,HB⟩:=hrel
  clear H0
  by_cases hlt:k < l0.length
  ·have hlti:(k:Int) < (l0.length:Int):=by omega
   obtain ⟨b,hb,hstep⟩:=idxGo_drop p l0 k k r hlt HJ.out
   obtain ⟨ad,e,e0,e1⟩:=at_T27 (Kd.C_below HR.out HB.out) (k:Int) (by omega) hlti
   have hx:rd_T27 l0 (k:Int) = l0[k]:=by simp [rd_T27,hlt]
   rw [hx] at e0 e1
   simp only [Int.toNat_natCast] at e0 e1
   generalize l0[k] = x at hb e0 e1
   have hcall:=HP.out wr x b HB.out hb
   subst e
   rcases hstep with ⟨rfl,rfl⟩|⟨rfl,hj⟩
   ·have HC:=aM hcall
    have HB1:=HB.out
    clear hcall hb hx HP HJ
    go_wp2_with (go_at_fn g;refine HC.out.mono ?_;rintro e w' ⟨rfl,hb'⟩)
    go_ret
    exact ⟨rfl,HB1.trans (hb'.mono HB1.size)⟩
   ·have HC:=aM hcall
    have HJ2:=aM hj
    clear hcall hb hx hj
    go_wp2_with (go_at_fn g;refine HC.out.mono ?_;rintro e w' ⟨rfl,hb'⟩)
    go_roundg (l0.length - (k + 1))
    case measure=>omega
    case rel=>exact ⟨k + 1,by omega,by omega,by go_num,⟨by simpa using HJ2.out⟩,⟨HB.out.trans (hb'.mono HB.out.size)⟩⟩
  ·have hlti:¬ (k:Int) < (l0.length:Int):=by omega
   have hr:r = -1:=idxGo_end p l0 k k r (by omega) HJ.out
   have HR1:=aM hr
   have HB1:=HB.out
   clear hr HP HJ
   go_wp2
   go_ret
   exact ⟨by rw [HR1.out];rfl,HB1⟩
set_option maxHeartbeats 1000000 in
theorem containsFunc_Sequence.calls (g:Nat) (lb:Array Value) (eg:∀ args w,(callFunc g args).run Try.prog w = .ok (.enter g args) w) (p:S27 → Option Bool) (A0:Option Addr) (c0:Nat) (l0:List S27) (r:Int) (w:World)
  (hr0:Kd.C k27 w A0 l0.length l0) (hc0:l0.length ≤ c0)
  (hp:∀ W x b,Below w.heap.size w W → p x = some b → Calls Try.prog g (#[.agg #[.string x.f0,.string x.f1]] ++ lb) W fun e w'=>e = .returned (.bool b) ∧ Below W.heap.size W w')
  (h:idxGo p 0 l0 = some r) :
  Calls Try.prog 42 #[.slice A0 l0.length c0,.func (.func g) #[] lb] w fun e w'=>e = .returned (.bool (decide (0 ≤ r))) ∧ Below w.heap.size w w':=by
 have hcon:=indexFunc_Sequence.calls g lb eg p A0 c0 l0 r w hr0 hc0 hp h
 have HC:=aM hcon
 clear hcon hp h hr0
 go_enter Try.func42,Try.ntmps42
 go_wp2_with (go_at_call 48;refine HC.out.mono ?_;rintro e w' ⟨rfl,hb'⟩)
 go_ret
 exact ⟨rfl,hb'⟩
set_option maxHeartbeats 1000000 in
theorem notIs_Sequence.calls (g:Nat) (eg:∀ args w,(callFunc g args).run Try.prog w = .ok (.enter g args) w) (B:Nat) (w:World) (hcell:w.cell? ⟨B,0,none⟩ = some (.func (.func g) #[] #[])) (hB:B < w.heap.size) (x:S27) (b:Bool)
  (hp:∀ W,Below w.heap.size w W → Calls Try.prog g #[.agg #[.string x.f0,.string x.f1]] W fun e w'=>e = .returned (.bool b) ∧ Below W.heap.size W w') :
  Calls Try.prog 43 #[.agg #[.string x.f0,.string x.f1],.pointer (some ⟨B,0,none⟩)] w fun e w'=>e = .returned (.bool (!b)) ∧ Below w.heap.size w w':=by
 have HP:=aM hp
 have hu:=Try.underlying27
 clear hp
 go_enter Try.func43,Try.ntmps43
 go_wp2_with (go_at_fn g;refine (HP.out _ ((Below.refl _ _).alloc (Nat.le_refl _) _)).mono ?_;rintro e w' ⟨rfl,hb'⟩)
 go_ret
 exact ⟨rfl,((Below.refl _ w).alloc (Nat.le_refl _) _).trans (hb'.mono (by simp))⟩
set_option maxHeartbeats 1000000 in
theorem areAll_Sequence.calls (g:Nat) (eg:∀ args w,(callFunc g args).run Try.prog w = .ok (.enter g args) w) (p:S27 → Option Bool) (A0:Option Addr) (c0:Nat) (l0:List S27) (r:Bool) (w:World)
  (hr0:Kd.C k27 w A0 l0.length l0) (hc0:l0.length ≤ c0)
  (hp:∀ W x b,Below w.heap.size w W → p x = some b → Calls Try.prog g #[.agg #[.string x.f0,.string x.f1]] W fun e w'=>e = .returned (.bool b) ∧ Below W.heap.size W w')
  (h:allM p l0 = some r) :
  Calls Try.prog 33 #[.slice A0 l0.length c0,.func (.func g) #[] #[]] w fun e w'=>e = .returned (.bool r) ∧ Below w.heap.size w w':=by
 obtain ⟨i,h1,h2⟩:=allM_idx p l0 0 r (by omega) h
 have hw1:Below w.heap.size w (w.alloc (.cells #[.func (.func g) #[] #[]] 57)):=(Below.refl _ w).alloc (Nat.le_refl _) _
 have hcon:=containsFunc_Sequence.calls 43 #[.pointer (some ⟨w.heap.size,0,none⟩)] (enters_of Try.func43 (by kernel_rfl) rfl)
  (fun x=>(p x).map (fun b=>!b)) A0 c0 l0 i (w.alloc (.cells #[.func (.func g) #[] #[]] 57)) (Kd.C_below hr0 hw1) hc0
  (fun W x b hW hx=>by
   obtain ⟨q,hq,rfl⟩:=Option.map_eq_some_iff.1 hx
   have hcell:W.cell? ⟨w.heap.size,0,none⟩ = some (.func (.func g) #[] #[]):=(hW.cell (p:=⟨w.heap.size,0,none⟩) (by simp)).trans (by simp)
   exact notIs_Sequence.calls g eg w.heap.size W hcell (by have:=hW.size;simp at this;omega) x q (fun W' hW'=>hp W' x q (hw1.trans ((hW.mono (by simp)).trans (hW'.mono (by have:=hW.size;simp at this;omega)))) hq)) h1
 have HC:=aM hcon;have H2:=aM h2
 clear hcon hp h hr0 h1 h2
 go_enter Try.func33,Try.ntmps33
 go_wp2_with (go_at_call 42;refine HC.out.mono ?_;rintro e w' ⟨rfl,hb'⟩)
 go_ret
 exact ⟨by rw [H2.out];simp,hw1.trans (hb'.mono (by simp))⟩
set_option maxHeartbeats 1000000 in
theorem notIsB_Sequence.calls (g:Nat) (pre:Value) (eg:∀ args w,(callFunc g args).run Try.prog w = .ok (.enter g args) w) (B:Nat) (w:World) (hcell:w.cell? ⟨B,0,none⟩ = some (.func (.func g) #[pre] #[])) (hB:B < w.heap.size) (x:S27) (b:Bool)
  (hp:∀ W,Below w.heap.size w W → Calls Try.prog g #[pre,.agg #[.string x.f0,.string x.f1]] W fun e w'=>e = .returned (.bool b) ∧ Below W.heap.size W w') :
  Calls Try.prog 43 #[.agg #[.string x.f0,.string x.f1],.pointer (some ⟨B,0,none⟩)] w fun e w'=>e = .returned (.bool (!b)) ∧ Below w.heap.size w w':=by
 have HP:=aM hp
 have hu:=Try.underlying27
 clear hp
 go_enter Try.func43,Try.ntmps43
 go_wp2_with (go_at_fn g;refine (HP.out _ ((Below.refl _ _).alloc (Nat.le_refl _) _)).mono ?_;rintro e w' ⟨rfl,hb'⟩)
 go_ret
 exact ⟨rfl,((Below.refl _ w).alloc (Nat.le_refl _) _).trans (hb'.mono (by simp))⟩
set_option maxHeartbeats 1000000 in
theorem areAllB_Sequence.calls (g:Nat) (pre:Value) (eg:∀ args w,(callFunc g args).run Try.prog w = .ok (.enter g args) w) (p:S27 → Option Bool) (A0:Option Addr) (c0:Nat) (l0:List S27) (r:Bool) (w:World)
  (hr0:Kd.C k27 w A0 l0.length l0) (hc0:l0.length ≤ c0)
  (hp:∀ W x b,Below w.heap.size w W → p x = some b → Calls Try.prog g #[pre,.agg #[.string x.f0,.string x.f1]] W fun e w'=>e = .returned (.bool b) ∧ Below W.heap.size W w')
  (h:allM p l0 = some r) :
  Calls Try.prog 33 #[.slice A0 l0.length c0,.func (.func g) #[pre] #[]] w fun e w'=>e = .returned (.bool r) ∧ Below w.heap.size w w':=by
 obtain ⟨i,h1,h2⟩:=allM_idx p l0 0 r (by omega) h
 have hw1:Below w.heap.size w (w.alloc (.cells #[.func (.func g) #[pre] #[]] 57)):=(Below.refl _ w).alloc (Nat.le_refl _) _
 have hcon:=containsFunc_Sequence.calls 43 #[.pointer (some ⟨w.heap.size,0,none⟩)] (enters_of Try.func43 (by kernel_rfl) rfl)
  (fun x=>(p x).map (fun b=>!b)) A0 c0 l0 i (w.alloc (.cells #[.func (.func g) #[pre] #[]] 57)) (Kd.C_below hr0 hw1) hc0
  (fun W x b hW hx=>by
   obtain ⟨q,hq,rfl⟩:=Option.map_eq_some_iff.1 hx
   have hcell:W.cell? ⟨w.heap.size,0,none⟩ = some (.func (.func g) #[pre] #[]):=(hW.cell (p:=⟨w.heap.size,0,none⟩) (by simp)).trans (by simp)
   exact notIsB_Sequence.calls g pre eg w.heap.size W hcell (by have:=hW.size;simp at this;omega) x q (fun W' hW'=>hp W' x q (hw1.trans ((hW.mono (by simp)).trans (hW'.mono (by have:=hW.size;simp at this;omega)))) hq)) h1
 have HC:=aM hcon;have H2:=aM h2
 clear hcon hp h hr0 h1 h2
 go_enter Try.func33,Try.ntmps33
 go_wp2_with (go_at_call 42;refine HC.out.mono ?_;rintro e w' ⟨rfl,hb'⟩)
 go_ret
 exact ⟨by rw [H2.out];simp,hw1.trans (hb'.mono (by simp))⟩
def impl_starCode.f (k:Nat) (a0_0:ByteArray) (a0_1:ByteArray) (l1:List S27):Option Int :=
 (impl_IsSequence.f k a0_0 a0_1).bind fun s=>if s = true then ((allM (fun x=>impl_IsSequence.f k x.f0 x.f1) l1).bind fun q=>if q = true then ((impl_Sequence_isStar.f a0_0 a0_1).bind fun t=>if t = true then ((allM (fun x=>impl_Sequence_isPoint.f k a0_0 a0_1 x.f0 x.f1) l1).bind fun p=>some (if p = true then 0 else 5)) else some 5) else some 1) else some 1
theorem impl_starCode.mono:∀ a0 a1 a2 k,LeO (impl_starCode.f k a0 a1 a2) (impl_starCode.f (k + 1) a0 a1 a2):=by
 intro a b l k
 unfold impl_starCode.f
 refine LeO.bind (impl_IsSequence.mono _ _ k) (fun s=>?_)
 refine LeO.ite ?_ (LeO.refl _)
 refine LeO.bind (allM_mono (fun x=>impl_IsSequence.mono _ _ k) l) (fun q=>?_)
 refine LeO.ite ?_ (LeO.refl _)
 refine LeO.bind (LeO.refl _) (fun t=>?_)
 refine LeO.ite ?_ (LeO.refl _)
 exact LeO.bind (allM_mono (fun x=>impl_Sequence_isPoint.mono _ _ _ _ k) l) (fun p=>LeO.refl _)
set_option maxHeartbeats 2000000 in
theorem impl_starCode.calls (k:Nat) (a0_0:ByteArray) (a0_1:ByteArray) (A1:Option Addr) (c1:Nat) (l1:List S27) (r:Int) (w:World) (hr1:Kd.C k27 w A1 l1.length l1) (hc1:l1.length ≤ c1) (h:impl_starCode.f k a0_0 a0_1 l1 = some r) :
  Calls Try.prog 22 #[.agg #[.string a0_0,.string a0_1],.slice A1 l1.length c1] w fun e w'=>e = .returned (.int .i64 r) ∧ Below w.heap.size w w':=by
 unfold impl_starCode.f at h
 obtain ⟨s,hs,h⟩:=Option.bind_eq_some_iff.1 h
 have hu:=Try.underlying27
 have cS:∀ W,Calls Try.prog 32 #[.agg #[.string a0_0,.string a0_1]] W fun e w'=>e = .returned (.bool s) ∧ Below W.heap.size W w' :=
  fun W=>(impl_IsSequence.calls k _ _ s W hs).mono fun e w' ⟨he,hd⟩=>⟨he,by first|exact hd|exact hd.below⟩
 have CS:=aM cS;have HR1:=aM hr1
 clear cS hs hr1
 cases s with
 | false =>
  have hr:=Option.some.inj h
  subst hr
  clear h
  go_enter Try.func22,Try.ntmps22
  go_wp2_with (go_at_call 32;refine (CS.out _).mono ?_;rintro e w' ⟨rfl,hb'⟩)
  go_ret
  exact ⟨rfl,((Below.refl _ w).alloc (Nat.le_refl _) _).trans (hb'.mono (by simp))⟩
 | true =>
  simp only [if_true] at h
  obtain ⟨q,hq,h⟩:=Option.bind_eq_some_iff.1 h
  have cQ:∀ W,Below w.heap.size w W → Calls Try.prog 33 #[.slice A1 l1.length c1,.func (.func 32) #[] #[]] W fun e w'=>e = .returned (.bool q) ∧ Below W.heap.size W w' :=
   fun W hW=>areAll_Sequence.calls 32 (enters_of Try.func32 (by kernel_rfl) rfl) (fun x:S27=>impl_IsSequence.f k x.f0 x.f1) A1 c1 l1 q W (Kd.C_below HR1.out hW) hc1
    (fun W x b _ hx=>(impl_IsSequence.calls k _ _ b W hx).mono fun e w' ⟨he,hd⟩=>⟨he,by first|exact hd|exact hd.below⟩) hq
  have CQ:=aM cQ
  clear cQ hq
  have first_:∀ {W1 wA:World},W1 = w.alloc (.cells #[.string a0_0,.string a0_1] 27) → Below W1.heap.size W1 wA → Below w.heap.size w wA ∧ w.heap.size < wA.heap.size ∧ wA.cell? ⟨w.heap.size,0,none⟩ = some (.string a0_0) ∧ wA.cell? ⟨w.heap.size,1,none⟩ = some (.string a0_1):=by
   rintro W1 wA rfl hb
   have hs:=hb.size
   simp at hs
   exact ⟨((Below.refl _ w).alloc (Nat.le_refl _) _).trans (hb.mono (by simp)),by omega,(hb.cell (p:=⟨w.heap.size,0,none⟩) (by simp)).trans (by simp),(hb.cell (p:=⟨w.heap.size,1,none⟩) (by simp)).trans (by simp)⟩
  have next_:∀ {wA wB:World},Below w.heap.size w wA ∧ w.heap.size < wA.heap.size ∧ wA.cell? ⟨w.heap.size,0,none⟩ = some (.string a0_0) ∧ wA.cell? ⟨w.heap.size,1,none⟩ = some (.string a0_1) → Below wA.heap.size wA wB → Below w.heap.size w wB ∧ w.heap.size < wB.heap.size ∧ wB.cell? ⟨w.heap.size,0,none⟩ = some (.string a0_0) ∧ wB.cell? ⟨w.heap.size,1,none⟩ = some (.string a0_1):=by
   rintro wA wB ⟨h1,h2,h3,h4⟩ hb
   have hs:=hb.size
   exact ⟨h1.trans (hb.mono h1.size),by omega,(hb.cell (p:=⟨w.heap.size,0,none⟩) h2).trans h3,(hb.cell (p:=⟨w.heap.size,1,none⟩) h2).trans h4⟩
  cases q with
  | false =>
   have hr:=Option.some.inj h
   subst hr
   clear h
   go_enter Try.func22,Try.ntmps22
   go_wp2_with (go_at_call 32;refine (CS.out _).mono ?_)
   rintro e wA ⟨rfl,hb'⟩
   obtain ⟨hA,hA1,hA2,hA3⟩:=first_ rfl hb'
   clear hb'
   go_wp2_with (go_at_call 33;refine (CQ.out _ hA).mono ?_)
   rintro e wB ⟨rfl,hb'⟩
   have hB:=hA.trans (hb'.mono hA.size)
   clear hb'
   go_wp2
   go_ret
   exact ⟨rfl,hB⟩
  | true =>
   simp only [if_true] at h
   obtain ⟨t,ht,h⟩:=Option.bind_eq_some_iff.1 h
   have cT:∀ W,Calls Try.prog 34 #[.agg #[.string a0_0,.string a0_1]] W fun e w'=>e = .returned (.bool t) ∧ Below W.heap.size W w' :=
    fun W=>(impl_Sequence_isStar.calls _ _ t W ht).mono fun e w' ⟨he,hd⟩=>⟨he,by first|exact hd|exact hd.below⟩
   have CT:=aM cT
   clear cT ht
   cases t with
   | false =>
    have hr:=Option.some.inj h
    subst hr
    clear h
    go_enter Try.func22,Try.ntmps22
    go_wp2_with (go_at_call 32;refine (CS.out _).mono ?_)
    rintro e wA ⟨rfl,hb'⟩
    obtain ⟨hA,hA1,hA2,hA3⟩:=first_ rfl hb'
    clear hb'
    go_wp2_with (go_at_call 33;refine (CQ.out _ hA).mono ?_)
    rintro e wB ⟨rfl,hb'⟩
    obtain ⟨hB,hB1,hB2,hB3⟩:=next_ ⟨hA,hA1,hA2,hA3⟩ hb'
    clear hb' hA hA1 hA2 hA3
    go_wp2_with (go_at_call 34;refine (CT.out _).mono ?_)
    rintro e wC ⟨rfl,hb'⟩
    have hC:=hB.trans (hb'.mono hB.size)
    clear hb'
    go_wp2
    go_ret
    exact ⟨rfl,hC⟩
   | true =>
    simp only [if_true] at h
    obtain ⟨p,hp,h⟩:=Option.bind_eq_some_iff.1 h
    have cP:∀ W,Below w.heap.size w W → Calls Try.prog 33 #[.slice A1 l1.length c1,.func (.func 35) #[.agg #[.string a0_0,.string a0_1]] #[]] W fun e w'=>e = .returned (.bool p) ∧ Below W.heap.size W w' :=
     fun W hW=>areAllB_Sequence.calls 35 (.agg #[.string a0_0,.string a0_1]) (enters_of Try.func35 (by kernel_rfl) rfl) (fun x:S27=>impl_Sequence_isPoint.f k a0_0 a0_1 x.f0 x.f1) A1 c1 l1 p W (Kd.C_below HR1.out hW) hc1
      (fun W x b _ hx=>(impl_Sequence_isPoint.calls k _ _ _ _ b W hx).mono fun e w' ⟨he,hd⟩=>⟨he,by first|exact hd|exact hd.below⟩) hp
    have CP:=aM cP
    have hr:=Option.some.inj h
    clear cP hp h
    cases p with
    | false =>
     obtain rfl:(5:Int) = r:=by simpa using hr
     clear hr
     go_enter Try.func22,Try.ntmps22
     go_wp2_with (go_at_call 32;refine (CS.out _).mono ?_)
     rintro e wA ⟨rfl,hb'⟩
     obtain ⟨hA,hA1,hA2,hA3⟩:=first_ rfl hb'
     clear hb'
     go_wp2_with (go_at_call 33;refine (CQ.out _ hA).mono ?_)
     rintro e wB ⟨rfl,hb'⟩
     obtain ⟨hB,hB1,hB2,hB3⟩:=next_ ⟨hA,hA1,hA2,hA3⟩ hb'
     clear hb' hA hA1 hA2 hA3
     go_wp2_with (go_at_call 34;refine (CT.out _).mono ?_)
     rintro e wC ⟨rfl,hb'⟩
     obtain ⟨hC,hC1,hC2,hC3⟩:=next_ ⟨hB,hB1,hB2,hB3⟩ hb'
     clear hb' hB hB1 hB2 hB3
     go_wp2_with (go_at_call 33;refine (CP.out _ hC).mono ?_)
     rintro e wD ⟨rfl,hb'⟩
     have hD:=hC.trans (hb'.mono hC.size)
     clear hb'
     go_wp2
     go_ret
     exact ⟨rfl,hD⟩
    | true =>
     obtain rfl:(0:Int) = r:=by simpa using hr
     clear hr
     go_enter Try.func22,Try.ntmps22
     go_wp2_with (go_at_call 32;refine (CS.out _).mono ?_)
     rintro e wA ⟨rfl,hb'⟩
     obtain ⟨hA,hA1,hA2,hA3⟩:=first_ rfl hb'
     clear hb'
     go_wp2_with (go_at_call 33;refine (CQ.out _ hA).mono ?_)
     rintro e wB ⟨rfl,hb'⟩
     obtain ⟨hB,hB1,hB2,hB3⟩:=next_ ⟨hA,hA1,hA2,hA3⟩ hb'
     clear hb' hA hA1 hA2 hA3
     go_wp2_with (go_at_call 34;refine (CT.out _).mono ?_)
     rintro e wC ⟨rfl,hb'⟩
     obtain ⟨hC,hC1,hC2,hC3⟩:=next_ ⟨hB,hB1,hB2,hB3⟩ hb'
     clear hb' hB hB1 hB2 hB3
     go_wp2_with (go_at_call 33;refine (CP.out _ hC).mono ?_)
     rintro e wD ⟨rfl,hb'⟩
     have hD:=hC.trans (hb'.mono hC.size)
     clear hb'
     go_wp2
     go_ret
     exact ⟨rfl,hD⟩
end Go.Proofs.Ytbiehbmojbmnoaa.Q
end
section
namespace Go.Proofs.Ytbiehbmojbmnoaa.Q
open Go.Proofs.YtbiehbmojbmnoaaW.Ext
open Go.RowKit Go.Proofs.YtbiehbmojbmnoaaW.PrintWords Go.Proofs.YtbiehbmojbmnoaaW.PrintLast Go.Proofs.YtbiehbmojbmnoaaW.PrintMore
attribute [local go_sem] max2_int min2_int max_two min_two max_three min_three max_four min_four   -- for this text's walks alone
set_option linter.unusedVariables false
set_option linter.unusedSimpArgs false
attribute [local go_sem high] eqA27
def impl_three_twice.j0:Nat → Bool → ByteArray → ByteArray → ByteArray → ByteArray → ByteArray → ByteArray → Option (ByteArray × ByteArray × Bool)
 | 0,_,_,_,_,_,_,_=>none
 | k + 1,x4,x239000,x239001,x239002,x239003,x239004,x239005=>if x4 = true then (some (x239000,x239001,true)) else (if (x239002.toList == x239004.toList && (x239003.toList == x239005.toList)) = true then (some (x239002,x239003,true)) else (some ((⟨#[]⟩:ByteArray),(⟨#[]⟩:ByteArray),false)))
def impl_three_twice.f (k:Nat) (a0_0:ByteArray) (a0_1:ByteArray) (a0_2:ByteArray) (a0_3:ByteArray) (a0_4:ByteArray) (a0_5:ByteArray):Option (ByteArray × ByteArray × Bool):=if (a0_0.toList == a0_2.toList && (a0_1.toList == a0_3.toList)) = true then (impl_three_twice.j0 k true a0_0 a0_1 a0_2 a0_3 a0_4 a0_5) else (impl_three_twice.j0 k (a0_0.toList == a0_4.toList && (a0_1.toList == a0_5.toList)) a0_0 a0_1 a0_2 a0_3 a0_4 a0_5)
theorem impl_three_twice.mono_l:∀ k,(∀ y0 y1 y2 y3 y4 y5 y6,LeO (impl_three_twice.j0 k y0 y1 y2 y3 y4 y5 y6) (impl_three_twice.j0 (k + 1) y0 y1 y2 y3 y4 y5 y6))
 | 0=>fun _ _ _ _ _ _ _ r h=>by simp [impl_three_twice.j0] at h
 | k + 1=>by
  have ih0:=impl_three_twice.mono_l k
  ·intro y0 y1 y2 y3 y4 y5 y6
   unfold impl_three_twice.j0
   repeat' first
   | (with_reducible exact ih0 _ _ _ _ _ _ _)
   | (with_reducible exact LeO.refl _)
   | (with_reducible exact LeO.none _)
   | (with_reducible refine LeO.ite ?_ ?_)
   | (with_reducible refine LeO.bind ?_ (fun _=>?_))
   | exact ih0 _ _ _ _ _ _ _
   | exact LeO.none _
   | refine LeO.ite ?_ ?_
   | refine LeO.bind ?_ (fun _=>?_)
theorem impl_three_twice.mono:∀ a0 a1 a2 a3 a4 a5 k,LeO (impl_three_twice.f k a0 a1 a2 a3 a4 a5) (impl_three_twice.f (k + 1) a0 a1 a2 a3 a4 a5):=by
 intro a0 a1 a2 a3 a4 a5 k
 have ih0:=impl_three_twice.mono_l k
 unfold impl_three_twice.f
 repeat' first
   | (with_reducible exact ih0 _ _ _ _ _ _ _)
   | (with_reducible exact LeO.refl _)
   | (with_reducible exact LeO.none _)
   | (with_reducible refine LeO.ite ?_ ?_)
   | (with_reducible refine LeO.bind ?_ (fun _=>?_))
   | exact ih0 _ _ _ _ _ _ _
   | exact LeO.none _
   | refine LeO.ite ?_ ?_
   | refine LeO.bind ?_ (fun _=>?_)
set_option maxHeartbeats 8000000 in
set_option maxRecDepth 100000 in
theorem impl_three_twice.calls (k:Nat) (a0_0:ByteArray) (a0_1:ByteArray) (a0_2:ByteArray) (a0_3:ByteArray) (a0_4:ByteArray) (a0_5:ByteArray) (r1:ByteArray) (r2:ByteArray) (r3:Bool) (w:World) (h:impl_three_twice.f k a0_0 a0_1 a0_2 a0_3 a0_4 a0_5 = some (r1,r2,r3)) :
  Calls Try.prog 23 #[.agg #[.string a0_0,.string a0_1,.string a0_2,.string a0_3,.string a0_4,.string a0_5]] w fun e w'=>e = .returned (.tuple #[.agg #[.string r1,.string r2],.bool r3]) ∧ Below w.heap.size w w':=by
 have hu37:=Try.underlying37
 have hu27:=Try.underlying27
 have HB:=aM (Below.refl w.heap.size w)
 have H:(if (a0_0.toList == a0_2.toList && (a0_1.toList == a0_3.toList)) = true then (impl_three_twice.j0 k true a0_0 a0_1 a0_2 a0_3 a0_4 a0_5) else (impl_three_twice.j0 k (a0_0.toList == a0_4.toList && (a0_1.toList == a0_5.toList)) a0_0 a0_1 a0_2 a0_3 a0_4 a0_5)) = some (r1,r2,r3):=h
 clear h
 have HC2:=aM H
 clear H
 go_enter Try.func23,Try.ntmps23
 go_upto_region 1 with (first|((with_reducible refine gate_dst (N:=1) rfl ?_);refine box_event ?hg (N:=1) ?hd (cs:=#[.string a0_0,.string a0_1,.string a0_2,.string a0_3,.string a0_4,.string a0_5]) (t:=37) ?hr ?_;(case hd=>rfl);(case hg=>rfl);(case hr=>first|(go_simp;done)|(go_simp;rfl));intro gb238 hg w3 hbox hb;have BK238:=aM (hbox);have GW238:=wl hg HB;have GE238:=wl hg HB;replace HB:=bs HB hb;clear hb hbox hg)|((with_reducible refine gate_dst (N:=2) rfl ?_);refine box_event ?hg (N:=2) ?hd (cs:=#[.string ⟨#[]⟩,.string ⟨#[]⟩]) (t:=27) ?hr ?_;(case hd=>rfl);(case hg=>rfl);(case hr=>first|(go_simp;done)|(go_simp;rfl));intro gb239 hg w4 hbox hb;have BK239:=aM (hbox);have GW239:=wl hg HB;have GE239:=wl hg HB;have NB238_239:=nl hg BK238;have NB239_238:=nr hg BK238;replace BK238:=kb BK238 hb;replace HB:=bs HB hb;clear hb hbox hg))
 (try simp only [Act.put,sI,sZ,sS])
 go_cut [4] (fun v4 wc=>∃ (kq:Nat) (x4_1:Bool),v4 = .bool x4_1 ∧ Aside0 (impl_three_twice.j0 kq x4_1 a0_0 a0_1 a0_2 a0_3 a0_4 a0_5 = some (r1,r2,r3)) ∧ Aside0 (kq ≤ k) ∧ Aside0 (wc.heap[gb238]? = some (.cells #[.string a0_0,.string a0_1,.string a0_2,.string a0_3,.string a0_4,.string a0_5] 37 (0,0))) ∧ Aside0 (wc.heap[gb239]? = some (.cells #[.string ⟨#[]⟩,.string ⟨#[]⟩] 27 (0,0))) ∧ Aside0 (Below w.heap.size w wc))
 case first =>
  have H:=HC2.out
  clear HC2
  by_cases c5:(a0_0.toList == a0_2.toList && (a0_1.toList == a0_3.toList)) = true
  ·rw [if_pos c5] at H
   have c5b0:(a0_0.toList == a0_2.toList && (a0_1.toList == a0_3.toList)) = true:=c5
   (try (have c5b1:decide (a0_0.toList = a0_2.toList && (a0_1.toList == a0_3.toList)) = true:=by simpa using c5))
   (try (have c5b2:(a0_0.toList == a0_2.toList && (a0_1.toList == a0_3.toList)) = true:=by simpa using c5))
   clear c5
   (first|rw [c5b0]|(simp only [i64_w,i32_w];rw [c5b0])|skip)
   have H':=aM H
   clear H
   have hnb6:=NB238_239.out
   have hnc6:=NB239_238.out
   have⟨a0,a1,a2,a3,a4,a5,b0,b1,b2,b3,b4,b5⟩:=q6f BK238
   go_wp2
   go_meet
   case rel=>exact ⟨_,(true),(by first|rfl|(simp;done)|(simp [*];done)),H',⟨by first|omega|exact Nat.le_refl _⟩,⟨bk BK238⟩,⟨bk BK239⟩,⟨bb HB⟩⟩
  ·rw [if_neg c5] at H
   have c5b0:(a0_0.toList == a0_2.toList && (a0_1.toList == a0_3.toList)) = false:=by simpa using c5
   (try (have c5b1:decide (a0_0.toList = a0_2.toList && (a0_1.toList == a0_3.toList)) = false:=by simpa using c5))
   (try (have c5b2:(a0_0.toList == a0_2.toList && (a0_1.toList == a0_3.toList)) = false:=by simpa using c5))
   (try (have c5b3:¬ (a0_0.toList = a0_2.toList && (a0_1.toList == a0_3.toList)):=by simpa using c5))
   clear c5
   (first|rw [c5b0]|(simp only [i64_w,i32_w];rw [c5b0])|skip)
   have H':=aM H
   clear H
   have hnb8:=NB238_239.out
   have hnc8:=NB239_238.out
   have⟨a0,a1,a2,a3,a4,a5,b0,b1,b2,b3,b4,b5⟩:=q6f BK238
   go_wp2
   go_meet
   case rel=>exact ⟨_,((a0_0.toList == a0_4.toList && (a0_1.toList == a0_5.toList))),(by first|rfl|(simp;done)|(simp [*];done)),H',⟨by first|omega|exact Nat.le_refl _⟩,⟨bk BK238⟩,⟨bk BK239⟩,⟨bb HB⟩⟩
 case rest =>
  clear HC2
  try clear c2
  try clear p2
  try clear c5
  try clear c5b0
  try clear c5b1
  try clear c5b2
  try clear c6
  try clear c8
  try clear hcz7_0
  try clear hcz7_1
  try clear hcz7_2
  try clear hcz7_3
  try clear hcz7_4
  try clear hcz7_5
  try clear hcz9_0
  try clear hcz9_1
  try clear hcz9_2
  try clear hcz9_3
  try clear hcz9_4
  try clear hcz9_5
  try clear hfz7_0
  try clear hfz7_1
  try clear hfz7_2
  try clear hfz7_3
  try clear hfz7_4
  try clear hfz7_5
  try clear hfz9_0
  try clear hfz9_1
  try clear hfz9_2
  try clear hfz9_3
  try clear hfz9_4
  try clear hfz9_5
  obtain ⟨kq,x4_1,rfl,HA,HJ1,BK238,BK239,HB⟩:=hcut
  cases kq with
  | zero=>exact absurd HA.out (by simp [impl_three_twice.j0])
  | succ kj1 =>
   have H:=HA.out
   clear HA
   simp only [impl_three_twice.j0] at H
   by_cases c10:x4_1 = true
   ·subst c10
    have H1:(some (a0_0,a0_1,true)) = some (r1,r2,r3):=by rw [if_pos rfl] at H;exact H
    clear H
    have H:=H1
    clear H1
    simp only [Option.some.injEq,Prod.mk.injEq] at H
    obtain ⟨rfl,rfl,rfl⟩:=H
    have hnb11:=NB238_239.out
    have hnc11:=NB239_238.out
    have⟨a0,a1,a2,a3,a4,a5,b0,b1,b2,b3,b4,b5⟩:=q6f BK238;have⟨a0,a1,b0,b1⟩:=q2f BK239
    go_wp2
    refine bodyPost_ret (results_ct rfl _ _ gb239 27 #[.string a0_0,.string a0_1] (0,0) _ rfl (by (with_reducible repeat (first|apply yN|apply yD|apply yA));refine blk_put (cs:=#[.string a0_0,.string ⟨#[]⟩]) ?_ 1 _ rfl;(with_reducible repeat (first|apply yN|apply yD|apply yA));refine blk_put (cs:=#[.string ⟨#[]⟩,.string ⟨#[]⟩]) ?_ 0 _ rfl;(with_reducible repeat (first|apply yN|apply yD|apply yA));exact BK239.out) Try.underlying27 rfl (by kernel_rfl)) rfl ?_
    exact ⟨by first|rfl|(simp [errW_none,errW_some] <;> rfl)|(simp [*,errW_none,errW_some] <;> rfl),by first|exact bb HB|exact bg HB GE238|exact bg HB GE239⟩
   ·replace c10:=Bool.eq_false_iff.mpr c10
    subst c10
    have H1:(if (a0_2.toList == a0_4.toList && (a0_3.toList == a0_5.toList)) = true then (some (a0_2,a0_3,true)) else (some ((⟨#[]⟩:ByteArray),(⟨#[]⟩:ByteArray),false))) = some (r1,r2,r3):=by rw [if_neg (show ¬ (false = true) by decide)] at H;exact H
    clear H
    have H:=H1
    clear H1
    by_cases c14:(a0_2.toList == a0_4.toList && (a0_3.toList == a0_5.toList)) = true
    ·rw [if_pos c14] at H
     have c14b0:(a0_2.toList == a0_4.toList && (a0_3.toList == a0_5.toList)) = true:=c14
     (try (have c14b1:decide (a0_2.toList = a0_4.toList && (a0_3.toList == a0_5.toList)) = true:=by simpa using c14))
     (try (have c14b2:(a0_2.toList == a0_4.toList && (a0_3.toList == a0_5.toList)) = true:=by simpa using c14))
     clear c14
     simp only [Option.some.injEq,Prod.mk.injEq] at H
     obtain ⟨rfl,rfl,rfl⟩:=H
     have hnb15:=NB238_239.out
     have hnc15:=NB239_238.out
     have⟨a0,a1,a2,a3,a4,a5,b0,b1,b2,b3,b4,b5⟩:=q6f BK238;have⟨a0,a1,b0,b1⟩:=q2f BK239
     go_wp2
     refine bodyPost_ret (results_ct rfl _ _ gb239 27 #[.string a0_2,.string a0_3] (0,0) _ rfl (by (with_reducible repeat (first|apply yN|apply yD|apply yA));refine blk_put (cs:=#[.string a0_2,.string ⟨#[]⟩]) ?_ 1 _ rfl;(with_reducible repeat (first|apply yN|apply yD|apply yA));refine blk_put (cs:=#[.string ⟨#[]⟩,.string ⟨#[]⟩]) ?_ 0 _ rfl;(with_reducible repeat (first|apply yN|apply yD|apply yA));exact BK239.out) Try.underlying27 rfl (by kernel_rfl)) rfl ?_
     exact ⟨by first|rfl|(simp [errW_none,errW_some] <;> rfl)|(simp [*,errW_none,errW_some] <;> rfl),by first|exact bb HB|exact bg HB GE238|exact bg HB GE239⟩
    ·rw [if_neg c14] at H
     have c14b0:(a0_2.toList == a0_4.toList && (a0_3.toList == a0_5.toList)) = false:=by simpa using c14
     (try (have c14b1:decide (a0_2.toList = a0_4.toList && (a0_3.toList == a0_5.toList)) = false:=by simpa using c14))
     (try (have c14b2:(a0_2.toList == a0_4.toList && (a0_3.toList == a0_5.toList)) = false:=by simpa using c14))
     (try (have c14b3:¬ (a0_2.toList = a0_4.toList && (a0_3.toList == a0_5.toList)):=by simpa using c14))
     clear c14
     simp only [Option.some.injEq,Prod.mk.injEq] at H
     obtain ⟨rfl,rfl,rfl⟩:=H
     have hnb18:=NB238_239.out
     have hnc18:=NB239_238.out
     have⟨a0,a1,a2,a3,a4,a5,b0,b1,b2,b3,b4,b5⟩:=q6f BK238;have⟨a0,a1,b0,b1⟩:=q2f BK239
     go_wp2
     refine bodyPost_ret (results_ct rfl _ _ gb239 27 #[.string ⟨#[]⟩,.string ⟨#[]⟩] (0,0) _ rfl (by (with_reducible repeat (first|apply yN|apply yD|apply yA));refine blk_put (cs:=#[.string ⟨#[]⟩,.string ⟨#[]⟩]) ?_ 1 _ rfl;(with_reducible repeat (first|apply yN|apply yD|apply yA));refine blk_put (cs:=#[.string ⟨#[]⟩,.string ⟨#[]⟩]) ?_ 0 _ rfl;(with_reducible repeat (first|apply yN|apply yD|apply yA));exact BK239.out) Try.underlying27 rfl (by kernel_rfl)) rfl ?_
     exact ⟨by first|rfl|(simp [errW_none,errW_some] <;> rfl)|(simp [*,errW_none,errW_some] <;> rfl),by first|exact bb HB|exact bg HB GE238|exact bg HB GE239⟩
end Go.Proofs.Ytbiehbmojbmnoaa.Q
end
section
namespace Go.Proofs.Ytbiehbmojbmnoaa.Q
open Go.Proofs.YtbiehbmojbmnoaaW.Ext
open Go.RowKit Go.Proofs.YtbiehbmojbmnoaaW.PrintWords Go.Proofs.YtbiehbmojbmnoaaW.PrintLast Go.Proofs.YtbiehbmojbmnoaaW.PrintMore
attribute [local go_sem] max2_int min2_int max_two min_two max_three min_three max_four min_four   -- for this text's walks alone
set_option linter.unusedVariables false
set_option linter.unusedSimpArgs false
section
theorem three_row {w:World} {g:Nat} {t:TypeId} {a1_0 a1_1 a1_2 a1_3 a1_4 a1_5:ByteArray} (h:w.heap[g]? = some (.cells #[.string a1_0,.string a1_1,.string a1_2,.string a1_3,.string a1_4,.string a1_5] t (0,0))) :
  Kd.C k27 w (some ⟨g,0,none⟩) 3 ([⟨a1_0,a1_1⟩,⟨a1_2,a1_3⟩,⟨a1_4,a1_5⟩]:List S27):=by
 have c:=fun i=>blk_cell h i
 refine ⟨rfl,by decide,fun _=>⟨⟨g,0,none⟩,rfl,fun j p hp=>?_⟩⟩
 rcases j with _|_|_|j
 ·obtain rfl:=Option.some.inj hp
  refine ⟨_,rfl,k27_mk w _,fun i u hu=>?_⟩
  rcases i with _|_|i
  ·obtain rfl:=Option.some.inj hu;exact (c 0).trans rfl
  ·obtain rfl:=Option.some.inj hu;exact (c 1).trans rfl
  ·cases hu
 ·obtain rfl:=Option.some.inj hp
  refine ⟨_,rfl,k27_mk w _,fun i u hu=>?_⟩
  rcases i with _|_|i
  ·obtain rfl:=Option.some.inj hu;exact (c 2).trans rfl
  ·obtain rfl:=Option.some.inj hu;exact (c 3).trans rfl
  ·cases hu
 ·obtain rfl:=Option.some.inj hp
  refine ⟨_,rfl,k27_mk w _,fun i u hu=>?_⟩
  rcases i with _|_|i
  ·obtain rfl:=Option.some.inj hu;exact (c 4).trans rfl
  ·obtain rfl:=Option.some.inj hu;exact (c 5).trans rfl
  ·cases hu
 ·cases hp
def impl_differentCode.f (k:Nat) (a0_0 a0_1 a1_0 a1_1 a1_2 a1_3 a1_4 a1_5:ByteArray):Option Int :=
 (impl_starCode.f k a0_0 a0_1 [⟨a1_0,a1_1⟩,⟨a1_2,a1_3⟩,⟨a1_4,a1_5⟩]).bind fun c=>if c ≠ 0 then some c else (impl_three_twice.f k a1_0 a1_1 a1_2 a1_3 a1_4 a1_5).bind fun t=>some (if t.2.2 = true then 5 else 0)
theorem impl_differentCode.mono:∀ a0 a1 b0 b1 b2 b3 b4 b5 k,LeO (impl_differentCode.f k a0 a1 b0 b1 b2 b3 b4 b5) (impl_differentCode.f (k + 1) a0 a1 b0 b1 b2 b3 b4 b5):=by
 intro a0 a1 b0 b1 b2 b3 b4 b5 k
 unfold impl_differentCode.f
 refine LeO.bind (impl_starCode.mono _ _ _ k) (fun c=>?_)
 refine LeO.ite (LeO.refl _) ?_
 exact LeO.bind (impl_three_twice.mono _ _ _ _ _ _ k) (fun t=>LeO.refl _)
set_option maxHeartbeats 4000000 in
theorem impl_differentCode.calls (k:Nat) (a0_0 a0_1 a1_0 a1_1 a1_2 a1_3 a1_4 a1_5:ByteArray) (r:Int) (w:World) (h:impl_differentCode.f k a0_0 a0_1 a1_0 a1_1 a1_2 a1_3 a1_4 a1_5 = some r) :
  Calls Try.prog 14 #[.agg #[.string a0_0,.string a0_1],.agg #[.string a1_0,.string a1_1,.string a1_2,.string a1_3,.string a1_4,.string a1_5]] w fun e w'=>e = .returned (.int .i64 r) ∧ Below w.heap.size w w':=by
 unfold impl_differentCode.f at h
 obtain ⟨c,h0,h⟩:=Option.bind_eq_some_iff.1 h
 have CS:Aside0 (∀ W,Kd.C k27 W (some ⟨w.heap.size + 1,0,none⟩) 3 ([⟨a1_0,a1_1⟩,⟨a1_2,a1_3⟩,⟨a1_4,a1_5⟩]:List S27) → Calls Try.prog 22 #[.agg #[.string a0_0,.string a0_1],.slice (some ⟨w.heap.size + 1,0,none⟩) 3 3] W fun e w'=>e = .returned (.int .i64 c) ∧ Below W.heap.size W w'):=⟨fun W hr=>(impl_starCode.calls k a0_0 a0_1 (some ⟨w.heap.size + 1,0,none⟩) 3 [⟨a1_0,a1_1⟩,⟨a1_2,a1_3⟩,⟨a1_4,a1_5⟩] c W hr (Nat.le_refl 3) h0).mono fun e w' hh=>hh⟩
 have HE:=aM h
 clear h h0
 have hu27:=Try.underlying27
 have hu37:=Try.underlying37
 go_enter Try.func14,Try.ntmps14
 go_wp2
 have s1:(w.alloc (.cells #[.string a0_0,.string a0_1] 27)).heap.size = w.heap.size + 1:=by simp
 have BV:=aM (yD (yA (blk_new w (.cells #[.string a0_0,.string a0_1] 27)) (.cells #[.string a1_0,.string a1_1,.string a1_2,.string a1_3,.string a1_4,.string a1_5] 37)));have BP:=aM (yD (s1 ▸ blk_new (w.alloc (.cells #[.string a0_0,.string a0_1] 27)) (.cells #[.string a1_0,.string a1_1,.string a1_2,.string a1_3,.string a1_4,.string a1_5] 37)));have HB:=aM (zD (zA (zA (Below.refl w.heap.size w) (.cells #[.string a0_0,.string a0_1] 27)) (.cells #[.string a1_0,.string a1_1,.string a1_2,.string a1_3,.string a1_4,.string a1_5] 37)))
 clear s1
 refine start_ (n:=4) (S:=fun w'=>w'.cell? ⟨w.heap.size,0,none⟩ = some (.string a0_0) ∧ w'.cell? ⟨w.heap.size,1,none⟩ = some (.string a0_1)) (ds:=[]) #[fF,fF,fF,fF] (by kernel_rfl) rfl rfl ⟨(blk_cell BV.out 0).trans rfl,(blk_cell BV.out 1).trans rfl⟩ (fun hHeld=>?_)
 refine pure_ (i:=1) (N:=some 9) (v:=?_) (a':=?_) #[fF,tT,fF,fF] rfl rfl (by kernel_rfl) (fun _ _ _ h=>h) (Or.inl ⟨by rfl,?_⟩) ?_ ?_
 rotate_left
 ·intro w'
  go_simp
  with_reducible rfl
 rotate_left
 ·simp only [Act.put,sI,sZ,sS,i64_w,i32_w]
  rfl
 refine take_ (i:=0) (N:=some 8) (v:=?_) (a':=?_) #[tT,tT,fF,fF] rfl rfl (by kernel_rfl) (fun _ _ _ h=>h) (Or.inl ⟨by rfl,?_⟩) hHeld ?_ ?_
 rotate_left
 ·rintro w' ⟨s0,s1⟩
  go_simp
  with_reducible rfl
 rotate_left
 ·simp only [Act.put,sI,sZ,sS,i64_w,i32_w]
  rfl
 refine one_ (i:=2) (N:=some 10) #[tT,tT,tT,fF] rfl rfl (by kernel_rfl) (by decide) (fun K hK=>?_)
 refine goes_ Try.func22 (by kernel_rfl) rfl #[.agg #[.string a0_0,.string a0_1],.slice (some ⟨w.heap.size + 1,0,none⟩) 3 3] (by rfl) rfl rfl (by simp only [sM,sC,sN];rfl) ?_
 with_reducible refine (CS.out _ (three_row BP.out)).mono ?_
 rintro e wB ⟨rfl,hb⟩
 refine ⟨_,rfl,?_⟩
 have GV:=aM (blk_below BV.out hb);have GP:=aM (blk_below BP.out hb);have GB:=aM (HB.out.trans (hb.mono HB.out.size))
 clear hb BV BP HB
 have BV:=GV
 have BP:=GP
 have HB:=GB
 clear GV GP GB
 refine hK.out _ _ ⟨(blk_cell BV.out 0).trans rfl,(blk_cell BV.out 1).trans rfl⟩ (fun hHeld=>?_)
 clear hK K
 refine norm_ (a':=?_) ?_ ?_
 rotate_left
 ·show Act.put _ (some 10) _ = _
  simp only [Act.put,sI,sZ,sS,i64_w,i32_w]
  rfl
 refine pure_ (i:=3) (N:=some 5) (v:=?_) (a':=?_) #[tT,tT,tT,tT] rfl rfl (by kernel_rfl) (fun _ _ _ h=>h) (Or.inl ⟨by rfl,?_⟩) ?_ ?_
 rotate_left
 ·intro w'
  go_simp
  with_reducible rfl
 rotate_left
 ·simp only [Act.put,sI,sZ,sS,i64_w,i32_w]
  rfl
 refine done_ (by kernel_rfl) ?_
 have e:=HE.out
 by_cases hc:c = 0
 ·rw [if_neg (by simp [hc])] at e
  obtain ⟨⟨t1,t2,t3⟩,h1,e⟩:=Option.bind_eq_some_iff.1 e
  have CT:=aM (fun W=>(impl_three_twice.calls k a1_0 a1_1 a1_2 a1_3 a1_4 a1_5 t1 t2 t3 W h1).mono fun e w' (hh:e = .returned (.tuple #[.agg #[.string t1,.string t2],.bool t3]) ∧ Below W.heap.size W w')=>hh)
  have hr:=Option.some.inj e
  clear e h1 CS HE
  subst hc
  have G0:=(blk_cell BP.out 0).trans rfl
  have G1:=(blk_cell BP.out 1).trans rfl
  have G2:=(blk_cell BP.out 2).trans rfl
  have G3:=(blk_cell BP.out 3).trans rfl
  have G4:=(blk_cell BP.out 4).trans rfl
  have G5:=(blk_cell BP.out 5).trans rfl
  cases t3 with
  | false =>
   obtain rfl:(0:Int) = r:=by simpa using hr
   clear hr
   go_wp2_with (go_at_call 23;refine (CT.out _).mono ?_;rintro e wC ⟨rfl,hb⟩)
   have hB:=HB.out.trans (hb.mono HB.out.size)
   go_wp2
   go_ret
   exact ⟨rfl,zA hB _⟩
  | true =>
   obtain rfl:(5:Int) = r:=by simpa using hr
   clear hr
   go_wp2_with (go_at_call 23;refine (CT.out _).mono ?_;rintro e wC ⟨rfl,hb⟩)
   have hB:=HB.out.trans (hb.mono HB.out.size)
   go_wp2
   go_ret
   exact ⟨rfl,zA hB _⟩
 ·rw [if_pos hc] at e
  obtain rfl:=Option.some.inj e
  have b1:(c != 0) = true:=bne_iff_ne.mpr hc
  clear e
  go_wp2
  go_ret
  exact ⟨rfl,HB.out⟩
end
def impl_short.f (a0_0:ByteArray) (a0_1:ByteArray):Option (ByteArray × ByteArray × Int):=if (wrap64 ((a0_0.size:Int) + (a0_1.size:Int))) > 64 then (some ((⟨#[]⟩:ByteArray),(⟨#[]⟩:ByteArray),3)) else (some (a0_0,a0_1,0))
set_option maxHeartbeats 8000000 in
set_option maxRecDepth 100000 in
theorem impl_short.calls (a0_0:ByteArray) (a0_1:ByteArray) (r1:ByteArray) (r2:ByteArray) (r3:Int) (w:World) (h:impl_short.f a0_0 a0_1 = some (r1,r2,r3)) :
  Calls Try.prog 24 #[.agg #[.string a0_0,.string a0_1]] w fun e w'=>e = .returned (.tuple #[.agg #[.string r1,.string r2],.int .i64 r3]) ∧ Below w.heap.size w w':=by
 have hu27:=Try.underlying27
 have HB:=aM (Below.refl w.heap.size w)
 have H:(if (wrap64 ((a0_0.size:Int) + (a0_1.size:Int))) > 64 then (some ((⟨#[]⟩:ByteArray),(⟨#[]⟩:ByteArray),3)) else (some (a0_0,a0_1,0))) = some (r1,r2,r3):=h
 clear h
 by_cases c2:(wrap64 ((a0_0.size:Int) + (a0_1.size:Int))) > 64
 ·rw [if_pos c2] at H
  have c2b0:decide (64 < (wrap64 ((a0_0.size:Int) + (a0_1.size:Int)))) = true:=decide_eq_true c2
  clear c2
  simp only [Option.some.injEq,Prod.mk.injEq] at H
  obtain ⟨rfl,rfl,rfl⟩:=H
  go_enter Try.func24,Try.ntmps24
  go_wp2_with (first|((with_reducible refine gate_dst (N:=1) rfl ?_);refine box_event ?hg (N:=1) ?hd (cs:=#[.string a0_0,.string a0_1]) (t:=27) ?hr ?_;(case hd=>rfl);(case hg=>rfl);(case hr=>first|(go_simp;done)|(go_simp;rfl));intro gb240 hg w3 hbox hb;have BK240:=aM (hbox);have GW240:=wl hg HB;have GE240:=wl hg HB;replace HB:=bs HB hb;clear hb hbox hg)|((with_reducible refine gate_dst (N:=2) rfl ?_);refine box_event ?hg (N:=2) ?hd (cs:=#[.string ⟨#[]⟩,.string ⟨#[]⟩]) (t:=27) ?hr ?_;(case hd=>rfl);(case hg=>rfl);(case hr=>first|(go_simp;done)|(go_simp;rfl));intro gb241 hg w4 hbox hb;have BK241:=aM (hbox);have GW241:=wl hg HB;have GE241:=wl hg HB;have NB240_241:=nl hg BK240;have NB241_240:=nr hg BK240;replace BK240:=kb BK240 hb;replace HB:=bs HB hb;clear hb hbox hg;have hnb5:=NB240_241.out;have hnc5:=NB241_240.out;have⟨a0,a1,b0,b1⟩:=q2f BK240;have⟨a0,a1,b0,b1⟩:=q2f BK241))
  refine bodyPost_ret (results_ct rfl _ _ gb241 27 #[.string ⟨#[]⟩,.string ⟨#[]⟩] (0,0) _ rfl (by (with_reducible repeat (first|apply yN|apply yD|apply yA));refine blk_put (cs:=#[.string ⟨#[]⟩,.string ⟨#[]⟩]) ?_ 1 _ rfl;(with_reducible repeat (first|apply yN|apply yD|apply yA));refine blk_put (cs:=#[.string ⟨#[]⟩,.string ⟨#[]⟩]) ?_ 0 _ rfl;(with_reducible repeat (first|apply yN|apply yD|apply yA));exact BK241.out) Try.underlying27 rfl (by kernel_rfl)) rfl ?_
  exact ⟨by first|rfl|(simp [errW_none,errW_some] <;> rfl)|(simp [*,errW_none,errW_some] <;> rfl),by first|exact bb HB|exact bg HB GE240|exact bg HB GE241⟩
 ·rw [if_neg c2] at H
  have c2b0:decide (64 < (wrap64 ((a0_0.size:Int) + (a0_1.size:Int)))) = false:=decide_eq_false c2
  clear c2
  simp only [Option.some.injEq,Prod.mk.injEq] at H
  obtain ⟨rfl,rfl,rfl⟩:=H
  go_enter Try.func24,Try.ntmps24
  go_wp2_with (first|((with_reducible refine gate_dst (N:=1) rfl ?_);refine box_event ?hg (N:=1) ?hd (cs:=#[.string a0_0,.string a0_1]) (t:=27) ?hr ?_;(case hd=>rfl);(case hg=>rfl);(case hr=>first|(go_simp;done)|(go_simp;rfl));intro gb240 hg w8 hbox hb;have BK240:=aM (hbox);have GW240:=wl hg HB;have GE240:=wl hg HB;replace HB:=bs HB hb;clear hb hbox hg)|((with_reducible refine gate_dst (N:=2) rfl ?_);refine box_event ?hg (N:=2) ?hd (cs:=#[.string ⟨#[]⟩,.string ⟨#[]⟩]) (t:=27) ?hr ?_;(case hd=>rfl);(case hg=>rfl);(case hr=>first|(go_simp;done)|(go_simp;rfl));intro gb241 hg w9 hbox hb;have BK241:=aM (hbox);have GW241:=wl hg HB;have GE241:=wl hg HB;have NB240_241:=nl hg BK240;have NB241_240:=nr hg BK240;replace BK240:=kb BK240 hb;replace HB:=bs HB hb;clear hb hbox hg;have hnb10:=NB240_241.out;have hnc10:=NB241_240.out;have⟨a0,a1,b0,b1⟩:=q2f BK240;have⟨a0,a1,b0,b1⟩:=q2f BK241))
  refine bodyPost_ret (results_ct rfl _ _ gb241 27 #[.string a0_0,.string a0_1] (0,0) _ rfl (by (with_reducible repeat (first|apply yN|apply yD|apply yA));refine blk_put (cs:=#[.string a0_0,.string ⟨#[]⟩]) ?_ 1 _ rfl;(with_reducible repeat (first|apply yN|apply yD|apply yA));refine blk_put (cs:=#[.string ⟨#[]⟩,.string ⟨#[]⟩]) ?_ 0 _ rfl;(with_reducible repeat (first|apply yN|apply yD|apply yA));exact BK241.out) Try.underlying27 rfl (by kernel_rfl)) rfl ?_
  exact ⟨by first|rfl|(simp [errW_none,errW_some] <;> rfl)|(simp [*,errW_none,errW_some] <;> rfl),by first|exact bb HB|exact bg HB GE240|exact bg HB GE241⟩
section
def mvOne (v0 v1:ByteArray) (letter:Int) (s0 s1:ByteArray):Option (ByteArray × ByteArray) :=
 (impl_Sequence_at.f s0 s1 0).bind fun x=>if x ≠ letter ∧ x ≠ 42 then some (v0,v1) else impl_Sequence_shift.f s0 s1
def impl_Sequence_moved.f (a0_0 a0_1 a1_0 a1_1 a1_2 a1_3 a1_4 a1_5:ByteArray) (a2:Int):Option (ByteArray × ByteArray × ByteArray × ByteArray × ByteArray × ByteArray) :=
 (mvOne a0_0 a0_1 a2 a1_0 a1_1).bind fun y0=>(mvOne a0_0 a0_1 a2 a1_2 a1_3).bind fun y1=>(mvOne a0_0 a0_1 a2 a1_4 a1_5).bind fun y2=>some (y0.1,y0.2,y1.1,y1.2,y2.1,y2.2)
def mvCells (a0 a1 a2 a3 a4 a5 y0 y1 y2 y3 y4 y5:ByteArray) (i:Int):Array Value :=
 if i = 0 then #[.string a0,.string a1,.string a2,.string a3,.string a4,.string a5] else if i = 1 then #[.string y0,.string y1,.string a2,.string a3,.string a4,.string a5] else if i = 2 then #[.string y0,.string y1,.string y2,.string y3,.string a4,.string a5] else #[.string y0,.string y1,.string y2,.string y3,.string y4,.string y5]
set_option maxHeartbeats 4000000 in
theorem impl_Sequence_moved.calls (a0_0 a0_1 a1_0 a1_1 a1_2 a1_3 a1_4 a1_5:ByteArray) (a2:Int) (r1 r2 r3 r4 r5 r6:ByteArray) (w:World) (h:impl_Sequence_moved.f a0_0 a0_1 a1_0 a1_1 a1_2 a1_3 a1_4 a1_5 a2 = some (r1,r2,r3,r4,r5,r6)) :
  Calls Try.prog 27 #[.agg #[.string a0_0,.string a0_1],.agg #[.string a1_0,.string a1_1,.string a1_2,.string a1_3,.string a1_4,.string a1_5],.int .u8 a2] w fun e w'=>e = .returned (.agg #[.string r1,.string r2,.string r3,.string r4,.string r5,.string r6]) ∧ Below w.heap.size w w':=by
 unfold impl_Sequence_moved.f at h
 obtain ⟨⟨y0,y1⟩,h0,h⟩:=Option.bind_eq_some_iff.1 h
 obtain ⟨⟨y2,y3⟩,h1,h⟩:=Option.bind_eq_some_iff.1 h
 obtain ⟨⟨y4,y5⟩,h2,h⟩:=Option.bind_eq_some_iff.1 h
 simp only [Option.some.injEq,Prod.mk.injEq] at h
 obtain ⟨rfl,rfl,rfl,rfl,rfl,rfl⟩:=h
 unfold mvOne at h0 h1 h2
 obtain ⟨x0,g0,h0⟩:=Option.bind_eq_some_iff.1 h0
 obtain ⟨x1,g1,h1⟩:=Option.bind_eq_some_iff.1 h1
 obtain ⟨x2,g2,h2⟩:=Option.bind_eq_some_iff.1 h2
 have c0:∀ W,Calls Try.prog 37 #[.agg #[.string a1_0,.string a1_1],.int .i64 0] W fun e w'=>e = .returned (.int .u8 x0) ∧ Below W.heap.size W w':=fun W=>(impl_Sequence_at.calls _ _ _ x0 W g0).mono fun e w' ⟨he,hd⟩=>⟨he,by first|exact hd|exact hd.below⟩
 have c1:∀ W,Calls Try.prog 37 #[.agg #[.string a1_2,.string a1_3],.int .i64 0] W fun e w'=>e = .returned (.int .u8 x1) ∧ Below W.heap.size W w':=fun W=>(impl_Sequence_at.calls _ _ _ x1 W g1).mono fun e w' ⟨he,hd⟩=>⟨he,by first|exact hd|exact hd.below⟩
 have c2:∀ W,Calls Try.prog 37 #[.agg #[.string a1_4,.string a1_5],.int .i64 0] W fun e w'=>e = .returned (.int .u8 x2) ∧ Below W.heap.size W w':=fun W=>(impl_Sequence_at.calls _ _ _ x2 W g2).mono fun e w' ⟨he,hd⟩=>⟨he,by first|exact hd|exact hd.below⟩
 have C0:=aM c0;have C1:=aM c1;have C2:=aM c2;have H0:=aM h0;have H1:=aM h1;have H2:=aM h2
 clear c0 c1 c2 h0 h1 h2 g0 g1 g2
 have q0:∀ W,(Instr.index 37 (.agg #[.string a1_0,.string a1_1,.string a1_2,.string a1_3,.string a1_4,.string a1_5]) (.int .i64 0)).run Try.prog W = .ok (.agg #[.string a1_0,.string a1_1]) W:=fun W=>by kernel_rfl
 have q1:∀ W,(Instr.index 37 (.agg #[.string a1_0,.string a1_1,.string a1_2,.string a1_3,.string a1_4,.string a1_5]) (.int .i64 1)).run Try.prog W = .ok (.agg #[.string a1_2,.string a1_3]) W:=fun W=>by kernel_rfl
 have q2:∀ W,(Instr.index 37 (.agg #[.string a1_0,.string a1_1,.string a1_2,.string a1_3,.string a1_4,.string a1_5]) (.int .i64 2)).run Try.prog W = .ok (.agg #[.string a1_4,.string a1_5]) W:=fun W=>by kernel_rfl
 have hu27:=Try.underlying27
 have hu37:=Try.underlying37
 go_enter Try.func27,Try.ntmps27
 go_wp2
 go_loopg [11] 3 (fun gg v11 wr=>∃ (i:Int),(i = 0 ∨ i = 1 ∨ i = 2 ∨ i = 3) ∧ 3 - i.toNat ≤ gg ∧ v11 = .int .i64 i ∧ Aside0 (wr.heap[w.heap.size]? = some (.cells #[.string a0_0,.string a0_1] 27 (0,0))) ∧ Aside0 (wr.heap[w.heap.size + 1]? = some (.cells (mvCells a1_0 a1_1 a1_2 a1_3 a1_4 a1_5 y0 y1 y2 y3 y4 y5 i) 37 (0,0))) ∧ Aside0 (wr.heap[w.heap.size + 1 + 1]? = some (.cells #[.string ⟨#[]⟩,.string ⟨#[]⟩,.string ⟨#[]⟩,.string ⟨#[]⟩,.string ⟨#[]⟩,.string ⟨#[]⟩] 37 (0,0))) ∧ Aside0 (Below w.heap.size w wr) ∧ Aside0 (w.heap.size + 3 ≤ wr.heap.size))
 case atStart =>
  have s1:(w.alloc (.cells #[.string a0_0,.string a0_1] 27)).heap.size = w.heap.size + 1:=by simp
  have s2:((w.alloc (.cells #[.string a0_0,.string a0_1] 27)).alloc (.cells #[.string a1_0,.string a1_1,.string a1_2,.string a1_3,.string a1_4,.string a1_5] 37)).heap.size = w.heap.size + 1 + 1:=by simp
  exact ⟨0,.inl rfl,by decide,rfl,⟨yA (yA (blk_new _ _) _) _⟩,⟨s1 ▸ yA (blk_new _ _) _⟩,⟨s2 ▸ blk_new _ _⟩,⟨zA (zA (zA (Below.refl _ _) _) _) _⟩,⟨by simp⟩⟩
 case round =>
  obtain ⟨i,hi,hg,rfl,HV,HP,HR,HB,HZ⟩:=hrel
  rcases hi with rfl|rfl|rfl|rfl
  ·have q:=q0 wr
   have HP':wr.heap[w.heap.size + 1]? = some (.cells #[.string a1_0,.string a1_1,.string a1_2,.string a1_3,.string a1_4,.string a1_5] 37 (0,0)):=HP.out
   clear HP
   have HP:=aM HP'
   clear HP'
   have e0:=H0.out
   by_cases d1:x0 = a2
   ·rw [if_neg (by simp [d1])] at e0
    have CS:=aM (fun W=>(impl_Sequence_shift.calls _ _ y0 y1 W e0).mono fun e w' (hh:e = .returned (.agg #[.string y0,.string y1]) ∧ Below W.heap.size W w')=>hh)
    have b1:(x0 != a2) = false:=bne_eq_false_iff_eq.mpr d1
    clear e0 d1
    go_wp2_with (first|(go_at_call 37;refine (C0.out _).mono ?_;rintro e wA ⟨rfl,hb'⟩;have GV:=aM (blk_below (yA HV.out _) hb');have GP:=aM (blk_below (yA HP.out _) hb');have GR:=aM (blk_below (yA HR.out _) hb');have GS:=aM (blk_below (blk_new wr (.cells #[.string a1_0,.string a1_1] 27)) hb');have HBA:=aM ((HB.out.alloc HB.out.size _).trans (hb'.mono (by have:=HB.out.size;simp;omega)));have HZA:=aM (Nat.le_trans HZ.out (Nat.le_trans (by simp) hb'.size));clear hb' HV HP HR HB HZ;have HV:=GV;have HP:=GP;have HR:=GR;have HB:=HBA;have HZ:=HZA;clear GV GP GR HBA HZA;have GS0:=(blk_cell GS.out 0).trans rfl;have GS1:=(blk_cell GS.out 1).trans rfl)|(go_at_call 38;refine (CS.out _).mono ?_;rintro e wB ⟨rfl,hb'⟩;have GV:=aM (blk_below HV.out hb');have GP:=aM (blk_below HP.out hb');have GR:=aM (blk_below HR.out hb');have HBA:=aM (HB.out.trans (hb'.mono HB.out.size));have HZA:=aM (Nat.le_trans HZ.out hb'.size);clear hb' HV HP HR HB HZ GS;have HV:=GV;have HP:=GP;have HR:=GR;have HB:=HBA;have HZ:=HZA;clear GV GP GR HBA HZA;have FP0:=blk_frozen HP.out 0;have FP1:=blk_frozen HP.out 1;have GC0:=(blk_cell HP.out 0).trans rfl;have GC1:=(blk_cell HP.out 1).trans rfl))
    all_goals
     go_roundg 2
     case measure=>omega
     case rel=>exact ⟨1,.inr (.inl rfl),by decide,rfl,⟨blk_far (blk_far HV.out (by simp) _) (by simp) _⟩,⟨blk_put (cs:=#[.string y0,.string a1_1,.string a1_2,.string a1_3,.string a1_4,.string a1_5]) (blk_put (cs:=#[.string a1_0,.string a1_1,.string a1_2,.string a1_3,.string a1_4,.string a1_5]) HP.out 0 _ rfl) 1 _ rfl⟩,⟨blk_far (blk_far HR.out (by simp) _) (by simp) _⟩,⟨zS (zS HB.out (by omega)) (by omega)⟩,⟨by have:=HZ.out;simpa [World.setCell] using this⟩⟩
   ·have b1:(x0 != a2) = true:=bne_iff_ne.mpr d1
    by_cases d2:x0 = 42
    ·rw [if_neg (by simp [d2])] at e0
     have CS:=aM (fun W=>(impl_Sequence_shift.calls _ _ y0 y1 W e0).mono fun e w' (hh:e = .returned (.agg #[.string y0,.string y1]) ∧ Below W.heap.size W w')=>hh)
     have b2:(x0 != 42) = false:=bne_eq_false_iff_eq.mpr d2
     clear e0 d1 d2
     go_wp2_with (first|(go_at_call 37;refine (C0.out _).mono ?_;rintro e wA ⟨rfl,hb'⟩;have GV:=aM (blk_below (yA HV.out _) hb');have GP:=aM (blk_below (yA HP.out _) hb');have GR:=aM (blk_below (yA HR.out _) hb');have GS:=aM (blk_below (blk_new wr (.cells #[.string a1_0,.string a1_1] 27)) hb');have HBA:=aM ((HB.out.alloc HB.out.size _).trans (hb'.mono (by have:=HB.out.size;simp;omega)));have HZA:=aM (Nat.le_trans HZ.out (Nat.le_trans (by simp) hb'.size));clear hb' HV HP HR HB HZ;have HV:=GV;have HP:=GP;have HR:=GR;have HB:=HBA;have HZ:=HZA;clear GV GP GR HBA HZA;have GS0:=(blk_cell GS.out 0).trans rfl;have GS1:=(blk_cell GS.out 1).trans rfl)|(go_at_call 38;refine (CS.out _).mono ?_;rintro e wB ⟨rfl,hb'⟩;have GV:=aM (blk_below HV.out hb');have GP:=aM (blk_below HP.out hb');have GR:=aM (blk_below HR.out hb');have HBA:=aM (HB.out.trans (hb'.mono HB.out.size));have HZA:=aM (Nat.le_trans HZ.out hb'.size);clear hb' HV HP HR HB HZ GS;have HV:=GV;have HP:=GP;have HR:=GR;have HB:=HBA;have HZ:=HZA;clear GV GP GR HBA HZA;have FP0:=blk_frozen HP.out 0;have FP1:=blk_frozen HP.out 1;have GC0:=(blk_cell HP.out 0).trans rfl;have GC1:=(blk_cell HP.out 1).trans rfl))
     all_goals
      go_roundg 2
      case measure=>omega
      case rel=>exact ⟨1,.inr (.inl rfl),by decide,rfl,⟨blk_far (blk_far HV.out (by simp) _) (by simp) _⟩,⟨blk_put (cs:=#[.string y0,.string a1_1,.string a1_2,.string a1_3,.string a1_4,.string a1_5]) (blk_put (cs:=#[.string a1_0,.string a1_1,.string a1_2,.string a1_3,.string a1_4,.string a1_5]) HP.out 0 _ rfl) 1 _ rfl⟩,⟨blk_far (blk_far HR.out (by simp) _) (by simp) _⟩,⟨zS (zS HB.out (by omega)) (by omega)⟩,⟨by have:=HZ.out;simpa [World.setCell] using this⟩⟩
    ·rw [if_pos ⟨d1,d2⟩] at e0
     have b2:(x0 != 42) = true:=bne_iff_ne.mpr d2
     obtain ⟨rfl,rfl⟩:=Prod.mk.inj (Option.some.inj e0)
     clear e0 d1 d2
     go_wp2_with (go_at_call 37;refine (C0.out _).mono ?_;rintro e wA ⟨rfl,hb'⟩;have GV:=aM (blk_below (yA HV.out _) hb');have GP:=aM (blk_below (yA HP.out _) hb');have GR:=aM (blk_below (yA HR.out _) hb');have GS:=aM (blk_below (blk_new wr (.cells #[.string a1_0,.string a1_1] 27)) hb');have HBA:=aM ((HB.out.alloc HB.out.size _).trans (hb'.mono (by have:=HB.out.size;simp;omega)));have HZA:=aM (Nat.le_trans HZ.out (Nat.le_trans (by simp) hb'.size));clear hb' HV HP HR HB HZ;have HV:=GV;have HP:=GP;have HR:=GR;have HB:=HBA;have HZ:=HZA;clear GV GP GR HBA HZA;have GS0:=(blk_cell GS.out 0).trans rfl;have GS1:=(blk_cell GS.out 1).trans rfl;have GA0:=(blk_cell HV.out 0).trans rfl;have GA1:=(blk_cell HV.out 1).trans rfl;have FP0:=blk_frozen HP.out 0;have FP1:=blk_frozen HP.out 1;have GC0:=(blk_cell HP.out 0).trans rfl;have GC1:=(blk_cell HP.out 1).trans rfl)
     all_goals
      go_roundg 2
      case measure=>omega
      case rel=>exact ⟨1,.inr (.inl rfl),by decide,rfl,⟨blk_far (blk_far HV.out (by simp) _) (by simp) _⟩,⟨blk_put (cs:=#[.string a0_0,.string a1_1,.string a1_2,.string a1_3,.string a1_4,.string a1_5]) (blk_put (cs:=#[.string a1_0,.string a1_1,.string a1_2,.string a1_3,.string a1_4,.string a1_5]) HP.out 0 _ rfl) 1 _ rfl⟩,⟨blk_far (blk_far HR.out (by simp) _) (by simp) _⟩,⟨zS (zS HB.out (by omega)) (by omega)⟩,⟨by have:=HZ.out;simpa [World.setCell] using this⟩⟩
  ·have q:=q1 wr
   have HP':wr.heap[w.heap.size + 1]? = some (.cells #[.string y0,.string y1,.string a1_2,.string a1_3,.string a1_4,.string a1_5] 37 (0,0)):=HP.out
   clear HP
   have HP:=aM HP'
   clear HP'
   have e0:=H1.out
   by_cases d1:x1 = a2
   ·rw [if_neg (by simp [d1])] at e0
    have CS:=aM (fun W=>(impl_Sequence_shift.calls _ _ y2 y3 W e0).mono fun e w' (hh:e = .returned (.agg #[.string y2,.string y3]) ∧ Below W.heap.size W w')=>hh)
    have b1:(x1 != a2) = false:=bne_eq_false_iff_eq.mpr d1
    clear e0 d1
    go_wp2_with (first|(go_at_call 37;refine (C1.out _).mono ?_;rintro e wA ⟨rfl,hb'⟩;have GV:=aM (blk_below (yA HV.out _) hb');have GP:=aM (blk_below (yA HP.out _) hb');have GR:=aM (blk_below (yA HR.out _) hb');have GS:=aM (blk_below (blk_new wr (.cells #[.string a1_2,.string a1_3] 27)) hb');have HBA:=aM ((HB.out.alloc HB.out.size _).trans (hb'.mono (by have:=HB.out.size;simp;omega)));have HZA:=aM (Nat.le_trans HZ.out (Nat.le_trans (by simp) hb'.size));clear hb' HV HP HR HB HZ;have HV:=GV;have HP:=GP;have HR:=GR;have HB:=HBA;have HZ:=HZA;clear GV GP GR HBA HZA;have GS0:=(blk_cell GS.out 0).trans rfl;have GS1:=(blk_cell GS.out 1).trans rfl)|(go_at_call 38;refine (CS.out _).mono ?_;rintro e wB ⟨rfl,hb'⟩;have GV:=aM (blk_below HV.out hb');have GP:=aM (blk_below HP.out hb');have GR:=aM (blk_below HR.out hb');have HBA:=aM (HB.out.trans (hb'.mono HB.out.size));have HZA:=aM (Nat.le_trans HZ.out hb'.size);clear hb' HV HP HR HB HZ GS;have HV:=GV;have HP:=GP;have HR:=GR;have HB:=HBA;have HZ:=HZA;clear GV GP GR HBA HZA;have FP0:=blk_frozen HP.out 2;have FP1:=blk_frozen HP.out 3;have GC0:=(blk_cell HP.out 2).trans rfl;have GC1:=(blk_cell HP.out 3).trans rfl))
    all_goals
     go_roundg 1
     case measure=>omega
     case rel=>exact ⟨2,.inr (.inr (.inl rfl)),by decide,rfl,⟨blk_far (blk_far HV.out (by simp) _) (by simp) _⟩,⟨blk_put (cs:=#[.string y0,.string y1,.string y2,.string a1_3,.string a1_4,.string a1_5]) (blk_put (cs:=#[.string y0,.string y1,.string a1_2,.string a1_3,.string a1_4,.string a1_5]) HP.out 2 _ rfl) 3 _ rfl⟩,⟨blk_far (blk_far HR.out (by simp) _) (by simp) _⟩,⟨zS (zS HB.out (by omega)) (by omega)⟩,⟨by have:=HZ.out;simpa [World.setCell] using this⟩⟩
   ·have b1:(x1 != a2) = true:=bne_iff_ne.mpr d1
    by_cases d2:x1 = 42
    ·rw [if_neg (by simp [d2])] at e0
     have CS:=aM (fun W=>(impl_Sequence_shift.calls _ _ y2 y3 W e0).mono fun e w' (hh:e = .returned (.agg #[.string y2,.string y3]) ∧ Below W.heap.size W w')=>hh)
     have b2:(x1 != 42) = false:=bne_eq_false_iff_eq.mpr d2
     clear e0 d1 d2
     go_wp2_with (first|(go_at_call 37;refine (C1.out _).mono ?_;rintro e wA ⟨rfl,hb'⟩;have GV:=aM (blk_below (yA HV.out _) hb');have GP:=aM (blk_below (yA HP.out _) hb');have GR:=aM (blk_below (yA HR.out _) hb');have GS:=aM (blk_below (blk_new wr (.cells #[.string a1_2,.string a1_3] 27)) hb');have HBA:=aM ((HB.out.alloc HB.out.size _).trans (hb'.mono (by have:=HB.out.size;simp;omega)));have HZA:=aM (Nat.le_trans HZ.out (Nat.le_trans (by simp) hb'.size));clear hb' HV HP HR HB HZ;have HV:=GV;have HP:=GP;have HR:=GR;have HB:=HBA;have HZ:=HZA;clear GV GP GR HBA HZA;have GS0:=(blk_cell GS.out 0).trans rfl;have GS1:=(blk_cell GS.out 1).trans rfl)|(go_at_call 38;refine (CS.out _).mono ?_;rintro e wB ⟨rfl,hb'⟩;have GV:=aM (blk_below HV.out hb');have GP:=aM (blk_below HP.out hb');have GR:=aM (blk_below HR.out hb');have HBA:=aM (HB.out.trans (hb'.mono HB.out.size));have HZA:=aM (Nat.le_trans HZ.out hb'.size);clear hb' HV HP HR HB HZ GS;have HV:=GV;have HP:=GP;have HR:=GR;have HB:=HBA;have HZ:=HZA;clear GV GP GR HBA HZA;have FP0:=blk_frozen HP.out 2;have FP1:=blk_frozen HP.out 3;have GC0:=(blk_cell HP.out 2).trans rfl;have GC1:=(blk_cell HP.out 3).trans rfl))
     all_goals
      go_roundg 1
      case measure=>omega
      case rel=>exact ⟨2,.inr (.inr (.inl rfl)),by decide,rfl,⟨blk_far (blk_far HV.out (by simp) _) (by simp) _⟩,⟨blk_put (cs:=#[.string y0,.string y1,.string y2,.string a1_3,.string a1_4,.string a1_5]) (blk_put (cs:=#[.string y0,.string y1,.string a1_2,.string a1_3,.string a1_4,.string a1_5]) HP.out 2 _ rfl) 3 _ rfl⟩,⟨blk_far (blk_far HR.out (by simp) _) (by simp) _⟩,⟨zS (zS HB.out (by omega)) (by omega)⟩,⟨by have:=HZ.out;simpa [World.setCell] using this⟩⟩
    ·rw [if_pos ⟨d1,d2⟩] at e0
     have b2:(x1 != 42) = true:=bne_iff_ne.mpr d2
     obtain ⟨rfl,rfl⟩:=Prod.mk.inj (Option.some.inj e0)
     clear e0 d1 d2
     go_wp2_with (go_at_call 37;refine (C1.out _).mono ?_;rintro e wA ⟨rfl,hb'⟩;have GV:=aM (blk_below (yA HV.out _) hb');have GP:=aM (blk_below (yA HP.out _) hb');have GR:=aM (blk_below (yA HR.out _) hb');have GS:=aM (blk_below (blk_new wr (.cells #[.string a1_2,.string a1_3] 27)) hb');have HBA:=aM ((HB.out.alloc HB.out.size _).trans (hb'.mono (by have:=HB.out.size;simp;omega)));have HZA:=aM (Nat.le_trans HZ.out (Nat.le_trans (by simp) hb'.size));clear hb' HV HP HR HB HZ;have HV:=GV;have HP:=GP;have HR:=GR;have HB:=HBA;have HZ:=HZA;clear GV GP GR HBA HZA;have GS0:=(blk_cell GS.out 0).trans rfl;have GS1:=(blk_cell GS.out 1).trans rfl;have GA0:=(blk_cell HV.out 0).trans rfl;have GA1:=(blk_cell HV.out 1).trans rfl;have FP0:=blk_frozen HP.out 2;have FP1:=blk_frozen HP.out 3;have GC0:=(blk_cell HP.out 2).trans rfl;have GC1:=(blk_cell HP.out 3).trans rfl)
     all_goals
      go_roundg 1
      case measure=>omega
      case rel=>exact ⟨2,.inr (.inr (.inl rfl)),by decide,rfl,⟨blk_far (blk_far HV.out (by simp) _) (by simp) _⟩,⟨blk_put (cs:=#[.string y0,.string y1,.string a0_0,.string a1_3,.string a1_4,.string a1_5]) (blk_put (cs:=#[.string y0,.string y1,.string a1_2,.string a1_3,.string a1_4,.string a1_5]) HP.out 2 _ rfl) 3 _ rfl⟩,⟨blk_far (blk_far HR.out (by simp) _) (by simp) _⟩,⟨zS (zS HB.out (by omega)) (by omega)⟩,⟨by have:=HZ.out;simpa [World.setCell] using this⟩⟩
  ·have q:=q2 wr
   have HP':wr.heap[w.heap.size + 1]? = some (.cells #[.string y0,.string y1,.string y2,.string y3,.string a1_4,.string a1_5] 37 (0,0)):=HP.out
   clear HP
   have HP:=aM HP'
   clear HP'
   have e0:=H2.out
   by_cases d1:x2 = a2
   ·rw [if_neg (by simp [d1])] at e0
    have CS:=aM (fun W=>(impl_Sequence_shift.calls _ _ y4 y5 W e0).mono fun e w' (hh:e = .returned (.agg #[.string y4,.string y5]) ∧ Below W.heap.size W w')=>hh)
    have b1:(x2 != a2) = false:=bne_eq_false_iff_eq.mpr d1
    clear e0 d1
    go_wp2_with (first|(go_at_call 37;refine (C2.out _).mono ?_;rintro e wA ⟨rfl,hb'⟩;have GV:=aM (blk_below (yA HV.out _) hb');have GP:=aM (blk_below (yA HP.out _) hb');have GR:=aM (blk_below (yA HR.out _) hb');have GS:=aM (blk_below (blk_new wr (.cells #[.string a1_4,.string a1_5] 27)) hb');have HBA:=aM ((HB.out.alloc HB.out.size _).trans (hb'.mono (by have:=HB.out.size;simp;omega)));have HZA:=aM (Nat.le_trans HZ.out (Nat.le_trans (by simp) hb'.size));clear hb' HV HP HR HB HZ;have HV:=GV;have HP:=GP;have HR:=GR;have HB:=HBA;have HZ:=HZA;clear GV GP GR HBA HZA;have GS0:=(blk_cell GS.out 0).trans rfl;have GS1:=(blk_cell GS.out 1).trans rfl)|(go_at_call 38;refine (CS.out _).mono ?_;rintro e wB ⟨rfl,hb'⟩;have GV:=aM (blk_below HV.out hb');have GP:=aM (blk_below HP.out hb');have GR:=aM (blk_below HR.out hb');have HBA:=aM (HB.out.trans (hb'.mono HB.out.size));have HZA:=aM (Nat.le_trans HZ.out hb'.size);clear hb' HV HP HR HB HZ GS;have HV:=GV;have HP:=GP;have HR:=GR;have HB:=HBA;have HZ:=HZA;clear GV GP GR HBA HZA;have FP0:=blk_frozen HP.out 4;have FP1:=blk_frozen HP.out 5;have GC0:=(blk_cell HP.out 4).trans rfl;have GC1:=(blk_cell HP.out 5).trans rfl))
    all_goals
     go_roundg 0
     case measure=>omega
     case rel=>exact ⟨3,.inr (.inr (.inr rfl)),by decide,rfl,⟨blk_far (blk_far HV.out (by simp) _) (by simp) _⟩,⟨blk_put (cs:=#[.string y0,.string y1,.string y2,.string y3,.string y4,.string a1_5]) (blk_put (cs:=#[.string y0,.string y1,.string y2,.string y3,.string a1_4,.string a1_5]) HP.out 4 _ rfl) 5 _ rfl⟩,⟨blk_far (blk_far HR.out (by simp) _) (by simp) _⟩,⟨zS (zS HB.out (by omega)) (by omega)⟩,⟨by have:=HZ.out;simpa [World.setCell] using this⟩⟩
   ·have b1:(x2 != a2) = true:=bne_iff_ne.mpr d1
    by_cases d2:x2 = 42
    ·rw [if_neg (by simp [d2])] at e0
     have CS:=aM (fun W=>(impl_Sequence_shift.calls _ _ y4 y5 W e0).mono fun e w' (hh:e = .returned (.agg #[.string y4,.string y5]) ∧ Below W.heap.size W w')=>hh)
     have b2:(x2 != 42) = false:=bne_eq_false_iff_eq.mpr d2
     clear e0 d1 d2
     go_wp2_with (first|(go_at_call 37;refine (C2.out _).mono ?_;rintro e wA ⟨rfl,hb'⟩;have GV:=aM (blk_below (yA HV.out _) hb');have GP:=aM (blk_below (yA HP.out _) hb');have GR:=aM (blk_below (yA HR.out _) hb');have GS:=aM (blk_below (blk_new wr (.cells #[.string a1_4,.string a1_5] 27)) hb');have HBA:=aM ((HB.out.alloc HB.out.size _).trans (hb'.mono (by have:=HB.out.size;simp;omega)));have HZA:=aM (Nat.le_trans HZ.out (Nat.le_trans (by simp) hb'.size));clear hb' HV HP HR HB HZ;have HV:=GV;have HP:=GP;have HR:=GR;have HB:=HBA;have HZ:=HZA;clear GV GP GR HBA HZA;have GS0:=(blk_cell GS.out 0).trans rfl;have GS1:=(blk_cell GS.out 1).trans rfl)|(go_at_call 38;refine (CS.out _).mono ?_;rintro e wB ⟨rfl,hb'⟩;have GV:=aM (blk_below HV.out hb');have GP:=aM (blk_below HP.out hb');have GR:=aM (blk_below HR.out hb');have HBA:=aM (HB.out.trans (hb'.mono HB.out.size));have HZA:=aM (Nat.le_trans HZ.out hb'.size);clear hb' HV HP HR HB HZ GS;have HV:=GV;have HP:=GP;have HR:=GR;have HB:=HBA;have HZ:=HZA;clear GV GP GR HBA HZA;have FP0:=blk_frozen HP.out 4;have FP1:=blk_frozen HP.out 5;have GC0:=(blk_cell HP.out 4).trans rfl;have GC1:=(blk_cell HP.out 5).trans rfl))
     all_goals
      go_roundg 0
      case measure=>omega
      case rel=>exact ⟨3,.inr (.inr (.inr rfl)),by decide,rfl,⟨blk_far (blk_far HV.out (by simp) _) (by simp) _⟩,⟨blk_put (cs:=#[.string y0,.string y1,.string y2,.string y3,.string y4,.string a1_5]) (blk_put (cs:=#[.string y0,.string y1,.string y2,.string y3,.string a1_4,.string a1_5]) HP.out 4 _ rfl) 5 _ rfl⟩,⟨blk_far (blk_far HR.out (by simp) _) (by simp) _⟩,⟨zS (zS HB.out (by omega)) (by omega)⟩,⟨by have:=HZ.out;simpa [World.setCell] using this⟩⟩
    ·rw [if_pos ⟨d1,d2⟩] at e0
     have b2:(x2 != 42) = true:=bne_iff_ne.mpr d2
     obtain ⟨rfl,rfl⟩:=Prod.mk.inj (Option.some.inj e0)
     clear e0 d1 d2
     go_wp2_with (go_at_call 37;refine (C2.out _).mono ?_;rintro e wA ⟨rfl,hb'⟩;have GV:=aM (blk_below (yA HV.out _) hb');have GP:=aM (blk_below (yA HP.out _) hb');have GR:=aM (blk_below (yA HR.out _) hb');have GS:=aM (blk_below (blk_new wr (.cells #[.string a1_4,.string a1_5] 27)) hb');have HBA:=aM ((HB.out.alloc HB.out.size _).trans (hb'.mono (by have:=HB.out.size;simp;omega)));have HZA:=aM (Nat.le_trans HZ.out (Nat.le_trans (by simp) hb'.size));clear hb' HV HP HR HB HZ;have HV:=GV;have HP:=GP;have HR:=GR;have HB:=HBA;have HZ:=HZA;clear GV GP GR HBA HZA;have GS0:=(blk_cell GS.out 0).trans rfl;have GS1:=(blk_cell GS.out 1).trans rfl;have GA0:=(blk_cell HV.out 0).trans rfl;have GA1:=(blk_cell HV.out 1).trans rfl;have FP0:=blk_frozen HP.out 4;have FP1:=blk_frozen HP.out 5;have GC0:=(blk_cell HP.out 4).trans rfl;have GC1:=(blk_cell HP.out 5).trans rfl)
     all_goals
      go_roundg 0
      case measure=>omega
      case rel=>exact ⟨3,.inr (.inr (.inr rfl)),by decide,rfl,⟨blk_far (blk_far HV.out (by simp) _) (by simp) _⟩,⟨blk_put (cs:=#[.string y0,.string y1,.string y2,.string y3,.string a0_0,.string a1_5]) (blk_put (cs:=#[.string y0,.string y1,.string y2,.string y3,.string a1_4,.string a1_5]) HP.out 4 _ rfl) 5 _ rfl⟩,⟨blk_far (blk_far HR.out (by simp) _) (by simp) _⟩,⟨zS (zS HB.out (by omega)) (by omega)⟩,⟨by have:=HZ.out;simpa [World.setCell] using this⟩⟩
  ·have HP':wr.heap[w.heap.size + 1]? = some (.cells #[.string y0,.string y1,.string y2,.string y3,.string y4,.string y5] 37 (0,0)):=HP.out
   clear HP
   have G0:=(blk_cell HP' 0).trans rfl
   have G1:=(blk_cell HP' 1).trans rfl
   have G2:=(blk_cell HP' 2).trans rfl
   have G3:=(blk_cell HP' 3).trans rfl
   have G4:=(blk_cell HP' 4).trans rfl
   have G5:=(blk_cell HP' 5).trans rfl
   have K0:=(blk_cell HR.out 0).trans rfl
   have K1:=(blk_cell HR.out 1).trans rfl
   have K2:=(blk_cell HR.out 2).trans rfl
   have K3:=(blk_cell HR.out 3).trans rfl
   have K4:=(blk_cell HR.out 4).trans rfl
   have K5:=(blk_cell HR.out 5).trans rfl
   have F0:=blk_frozen HR.out 0
   have F1:=blk_frozen HR.out 1
   have F2:=blk_frozen HR.out 2
   have F3:=blk_frozen HR.out 3
   have F4:=blk_frozen HR.out 4
   have F5:=blk_frozen HR.out 5
   go_wp2
   refine bodyPost_ret (results_cell_row rfl _ _ (w.heap.size + 1 + 1) 37 #[.string y0,.string y1,.string y2,.string y3,.string y4,.string y5] (0,0) _ rfl (blk_put (cs:=#[.string y0,.string y1,.string y2,.string y3,.string y4,.string ⟨#[]⟩]) (blk_put (cs:=#[.string y0,.string y1,.string y2,.string y3,.string ⟨#[]⟩,.string ⟨#[]⟩]) (blk_put (cs:=#[.string y0,.string y1,.string y2,.string ⟨#[]⟩,.string ⟨#[]⟩,.string ⟨#[]⟩]) (blk_put (cs:=#[.string y0,.string y1,.string ⟨#[]⟩,.string ⟨#[]⟩,.string ⟨#[]⟩,.string ⟨#[]⟩]) (blk_put (cs:=#[.string y0,.string ⟨#[]⟩,.string ⟨#[]⟩,.string ⟨#[]⟩,.string ⟨#[]⟩,.string ⟨#[]⟩]) (blk_put (cs:=#[.string ⟨#[]⟩,.string ⟨#[]⟩,.string ⟨#[]⟩,.string ⟨#[]⟩,.string ⟨#[]⟩,.string ⟨#[]⟩]) (HR.out) 0 _ rfl) 1 _ rfl) 2 _ rfl) 3 _ rfl) 4 _ rfl) 5 _ rfl) Try.underlying37 rfl (by kernel_rfl)) rfl ?_
   exact ⟨rfl,zS (zS (zS (zS (zS (zS (HB.out) (by omega)) (by omega)) (by omega)) (by omega)) (by omega)) (by omega)⟩
end
section
open Go.Maps Go.WideMaps
theorem laid3:laidOutB Try.prog = true:=by kernel_rfl
theorem row37:(37:TypeId) < Try.prog.types.size:=by
 show (37:Nat) < _
 exact of_decide_eq_true (by kernel_rfl)
theorem wide37:(match Try.prog.underlying 37 with|some (.array _ _)|some (.struct _)=>true|_=>false) = true:=by kernel_rfl
theorem law37:Keyed Try.prog 37:=Keyed.of_law (deep_law_laid laid3 (m:=4) (by omega) row37 (by kernel_rfl) wide37)
theorem kt37:Try.prog.keyType 37 = true:=by kernel_rfl
theorem cells37_:Try.prog.cellsOf 37 = 6:=by kernel_rfl
theorem cells27_:Try.prog.cellsOf 27 = 2:=by kernel_rfl
theorem cells9_:Try.prog.cellsOf 9 = 1:=by kernel_rfl
theorem sz3:∃ m,Try.prog.types.size = m + 3:=⟨Try.prog.types.size - 3,by
 have:(3:Nat) ≤ Try.prog.types.size:=of_decide_eq_true (by kernel_rfl)
 omega⟩
theorem key37 (a0 a1 a2 a3 a4 a5:ByteArray) (h0:a0.size ≤ maxLen) (h1:a1.size ≤ maxLen) (h2:a2.size ≤ maxLen) (h3:a3.size ≤ maxLen) (h4:a4.size ≤ maxLen) (h5:a5.size ≤ maxLen) :
  ∃ kl,keyOf Try.prog 37 (.agg #[.string a0,.string a1,.string a2,.string a3,.string a4,.string a5]) = some kl:=by
 obtain ⟨m,hm⟩:=sz3
 have hu:=Try.underlying37
 have hv:=Try.underlying27
 have h9:=Try.underlying9
 unfold keyOf
 simp only [hu]
 rw [if_pos (by simp [kt37,Value.formed,hu,cells37_]),hm]
 unfold Program.keyLits
 simp only [hu,Value.cells]
 rw [if_pos (by rw [cells37_];rfl),show List.range 3 = [0,1,2] from rfl,List.mapM_cons,List.mapM_cons,List.mapM_cons,List.mapM_nil]
 simp [cells27_,cells9_,Program.keyLits,hv,h9,h0,h1,h2,h3,h4,h5]
structure P6 where
 p0:ByteArray
 p1:ByteArray
 p2:ByteArray
 p3:ByteArray
 p4:ByteArray
 p5:ByteArray
deriving DecidableEq
def P6.cells (p:P6):Array Value:=#[.string p.p0,.string p.p1,.string p.p2,.string p.p3,.string p.p4,.string p.p5]
def P6.ok (p:P6):Prop:=p.p0.size ≤ 1000 ∧ p.p1.size ≤ 1000 ∧ p.p2.size ≤ 1000 ∧ p.p3.size ≤ 1000 ∧ p.p4.size ≤ 1000 ∧ p.p5.size ≤ 1000
instance (p:P6):Decidable p.ok:=by unfold P6.ok;infer_instance
theorem P6.key (p:P6) (h:p.ok):∃ kl,keyOf Try.prog 37 (.agg p.cells) = some kl:=by
 obtain ⟨h0,h1,h2,h3,h4,h5⟩:=h
 have hm:(1000:Nat) ≤ maxLen:=by unfold maxLen;omega
 exact key37 _ _ _ _ _ _ (Nat.le_trans h0 hm) (Nat.le_trans h1 hm) (Nat.le_trans h2 hm) (Nat.le_trans h3 hm) (Nat.le_trans h4 hm) (Nat.le_trans h5 hm)
theorem P6.cells_inj {p q:P6} (h:(Value.agg p.cells) = .agg q.cells):p = q:=by
 cases p;cases q
 simp only [P6.cells,Value.agg.injEq] at h
 have h':=congrArg Array.toList h
 simp at h'
 simp [h']
def idx6:List P6 → P6 → Option Nat
 | [],_=>none
 | x :: r,p=>if x = p then some 0 else (idx6 r p).map (· + 1)
theorem idx6_snoc_same:∀ (l:List P6) (p:P6),idx6 l p = none → idx6 (l ++ [p]) p = some l.length
 | [],p,_=>by simp [idx6]
 | x :: r,p,h=>by
  unfold idx6 at h
  split at h
  ·cases h
  ·rename_i hne
   have:=idx6_snoc_same r p (by simpa using h)
   simp [idx6,hne,this]
theorem idx6_snoc_other:∀ (l:List P6) (p q:P6),p ≠ q → idx6 (l ++ [p]) q = idx6 l q
 | [],p,q,h=>by simp [idx6,h]
 | x :: r,p,q,h=>by
  have:=idx6_snoc_other r p q h
  simp only [List.cons_append,idx6,this]
theorem idx6_lt:∀ (l:List P6) (p:P6) (i:Nat),idx6 l p = some i → i < l.length
 | [],_,_,h=>by cases h
 | x :: r,p,i,h=>by
  unfold idx6 at h
  split at h
  ·obtain rfl:=Option.some.inj h;simp
  ·obtain ⟨j,hj,rfl⟩:=Option.map_eq_some_iff.1 h
   have:=idx6_lt r p j hj
   simp;omega
def Tie (seen:List P6) (D:DataW Unit):Prop :=
 ∀ p kl,keyOf Try.prog 37 (.agg p.cells) = some kl →
  (idx6 seen p = none → has D kl = false) ∧ (∀ i,idx6 seen p = some i → has D kl = true ∧ D.atKey kl (.lit (.int .i64 0)) = .lit (.int .i64 i))
theorem Tie.nil:Tie [] (.map []):=fun p kl _=>⟨fun _=>rfl,fun i h=>by cases h⟩
theorem Tie.snoc {seen:List P6} {D:DataW Unit} (h:Tie seen D) (hD:IsMap D) {p:P6} {kl:Lit} (hk:keyOf Try.prog 37 (.agg p.cells) = some kl) (hn:idx6 seen p = none) :
  Tie (seen ++ [p]) (D.put kl (.lit (.int .i64 seen.length))):=by
 intro q kq hq
 by_cases e:p = q
 ·subst e
  obtain rfl:kl = kq:=Option.some.inj (hk.symm.trans hq)
  rw [idx6_snoc_same seen p hn]
  refine ⟨fun h=>(by cases h),fun i hi=>?_⟩
  obtain rfl:=Option.some.inj hi
  exact ⟨has_put_same hD (law37.key hk) _,atKey_put_same hD (law37.key hk) _ _⟩
 ·rw [idx6_snoc_other seen p q e]
  have hne:kq ≠ kl:=fun h=>e (P6.cells_inj (law37.inj hk (h ▸ hq)))
  rw [has_put_other hne,atKey_put_other hne]
  exact h q kq hq
theorem obj_far {w:World} {g:Nat} {o:Obj} (h:w.heap[g]? = some o) {p:Addr} (hp:g ≠ p.block) (u:Value):(w.setCell p u).heap[g]? = some o:=(Below.heap_setCell w p u g hp).trans h
def midEnd (k:Nat) (a b:ByteArray):Option (ByteArray × ByteArray × Int):=(impl_sequence.f k a b).bind fun q=>impl_short.f q.1 q.2
theorem midEnd.mono (a b:ByteArray) (k:Nat):LeO (midEnd k a b) (midEnd (k + 1) a b):=LeO.bind (impl_sequence.mono a b k) (fun _=>LeO.refl _)
def impl_Sequence_middle.l (v0 v1:ByteArray):Nat → P6 → ByteArray → List P6 → Option (ByteArray × ByteArray × Int)
 | 0,_,_,_=>none
 | k + 1,p,wd,seen =>
  if p.ok ∧ wd.size ≤ 600 ∧ seen.length = wd.size then
   (impl_three_twice.f k p.p0 p.p1 p.p2 p.p3 p.p4 p.p5).bind fun s =>
    if s.2.2 = true then (if s.1.size ≤ 1000 then midEnd k (wd ++ s.1) s.2.1 else none)
    else match idx6 seen p with
     | some i=>midEnd k (wd.extract 0 i) (wd.extract i wd.size)
     | none=>(impl_three_vote.f p.p0 p.p1 p.p2 p.p3 p.p4 p.p5).bind fun lt =>
      if 0 ≤ lt.2 then (if lt.2 = 0 then midEnd k (wd ++ p.p0) p.p1 else if lt.2 = 1 then midEnd k (wd ++ p.p2) p.p3 else if lt.2 = 2 then midEnd k (wd ++ p.p4) p.p5 else none)
      else if wd.size = 600 then some (⟨#[]⟩,⟨#[]⟩,3)
      else if lt.1 = 48 ∨ lt.1 = 49 then (impl_Sequence_moved.f v0 v1 p.p0 p.p1 p.p2 p.p3 p.p4 p.p5 lt.1).bind fun y=>impl_Sequence_middle.l v0 v1 k ⟨y.1,y.2.1,y.2.2.1,y.2.2.2.1,y.2.2.2.2.1,y.2.2.2.2.2⟩ (wd ++ Utf8.encode lt.1) (seen ++ [p])
      else none
  else none
def impl_Sequence_middle.f (k:Nat) (a0_0 a0_1 a1_0 a1_1 a1_2 a1_3 a1_4 a1_5:ByteArray):Option (ByteArray × ByteArray × Int):=impl_Sequence_middle.l a0_0 a0_1 k ⟨a1_0,a1_1,a1_2,a1_3,a1_4,a1_5⟩ ⟨#[]⟩ []
theorem impl_Sequence_middle.mono_l (v0 v1:ByteArray):∀ k p wd seen,LeO (impl_Sequence_middle.l v0 v1 k p wd seen) (impl_Sequence_middle.l v0 v1 (k + 1) p wd seen)
 | 0,_,_,_=>LeO.none _
 | k + 1,p,wd,seen=>by
  have ih:=impl_Sequence_middle.mono_l v0 v1 k
  unfold impl_Sequence_middle.l
  refine LeO.ite ?_ (LeO.refl _)
  refine LeO.bind (impl_three_twice.mono _ _ _ _ _ _ k) (fun s=>?_)
  refine LeO.ite (LeO.ite (midEnd.mono _ _ k) (LeO.refl _)) ?_
  cases idx6 seen p with
  | some i=>exact midEnd.mono _ _ k
  | none =>
   refine LeO.bind (LeO.refl _) (fun lt=>?_)
   refine LeO.ite (LeO.ite (midEnd.mono _ _ k) (LeO.ite (midEnd.mono _ _ k) (LeO.ite (midEnd.mono _ _ k) (LeO.refl _)))) ?_
   refine LeO.ite (LeO.refl _) (LeO.ite ?_ (LeO.refl _))
   exact LeO.bind (LeO.refl _) (fun y=>ih _ _ _)
theorem impl_Sequence_middle.mono:∀ a0 a1 b0 b1 b2 b3 b4 b5 k,LeO (impl_Sequence_middle.f k a0 a1 b0 b1 b2 b3 b4 b5) (impl_Sequence_middle.f (k + 1) a0 a1 b0 b1 b2 b3 b4 b5):=fun a0 a1 b0 b1 b2 b3 b4 b5 k=>impl_Sequence_middle.mono_l a0 a1 k _ _ _
theorem short_parts {k:Nat} {a b r1 r2:ByteArray} {r3:Int} (h:midEnd k a b = some (r1,r2,r3)):∃ s1 s2,impl_sequence.f k a b = some (s1,s2) ∧ impl_short.f s1 s2 = some (r1,r2,r3):=by
 obtain ⟨⟨s1,s2⟩,h1,h2⟩:=Option.bind_eq_some_iff.1 h
 exact ⟨s1,s2,h1,h2⟩
theorem ownsMap_at {w:World} {P:Program} {k:TypeId} {R:Value → Option (DataW Unit × List MemPlace)} {b n:Nat} {D:DataW Unit} (h:w.ownsMap P k R b n D):∃ o,w.heap[b]? = some o ∧ ∀ (W:World) (b':Nat),W.heap[b']? = some o → W.ownsMap P k R b' n D:=by
 obtain ⟨es,clock,h,r⟩:=h
 exact ⟨_,h,fun W b' hW=>⟨es,clock,hW,r⟩⟩
theorem zero3 (w:World):(zeroValue 3).run Try.prog w = .ok (.int .i64 0) w:=by kernel_rfl
theorem Lit.int_inj2 {a b:Int} (h:(DataW.lit (.int .i64 a):DataW Unit) = .lit (.int .i64 b)):a = b:=by injection h with h;injection h
theorem own_empty {P:Program} {k:TypeId} {R:Value → Option (DataW Unit × List MemPlace)} (W:World) (b:Nat) (hW:W.heap[b]? = some (.map #[] 0)):W.ownsMap P k R b 0 (.map []):=by
 obtain ⟨o,h1,h2⟩:=ownsMap_at (World.ownsMap_made W P k R)
 obtain rfl:=Option.some.inj ((blk_new W (.map #[] 0)).symm.trans h1)
 exact h2 W b hW
set_option maxHeartbeats 8000000 in
set_option maxRecDepth 100000 in
theorem impl_Sequence_middle.calls (k:Nat) (a0_0 a0_1 a1_0 a1_1 a1_2 a1_3 a1_4 a1_5:ByteArray) (r1 r2:ByteArray) (r3:Int) (w:World) (h:impl_Sequence_middle.f k a0_0 a0_1 a1_0 a1_1 a1_2 a1_3 a1_4 a1_5 = some (r1,r2,r3)) :
  Calls Try.prog 15 #[.agg #[.string a0_0,.string a0_1],.agg #[.string a1_0,.string a1_1,.string a1_2,.string a1_3,.string a1_4,.string a1_5]] w fun e w'=>e = .returned (.tuple #[.agg #[.string r1,.string r2],.int .i64 r3]) ∧ Below w.heap.size w w':=by
 have H0:impl_Sequence_middle.l a0_0 a0_1 k ⟨a1_0,a1_1,a1_2,a1_3,a1_4,a1_5⟩ ⟨#[]⟩ [] = some (r1,r2,r3):=h
 have H':=aM H0
 clear h H0
 have hu27:=Try.underlying27
 have hu37:=Try.underlying37
 have hmm:=@run_makeMap Try.prog
 go_enter Try.func15,Try.ntmps15
 go_wp2
 go_loopg [7] k (fun gg v7 wr=>∃ (p:P6) (wd:ByteArray) (seen:List P6) (D:DataW Unit) (o:Obj),v7 = .string wd ∧ Aside0 (impl_Sequence_middle.l a0_0 a0_1 gg p wd seen = some (r1,r2,r3)) ∧ Aside0 (wr.heap[w.heap.size]? = some (.cells #[.string a0_0,.string a0_1] 27 (0,0))) ∧ Aside0 (wr.heap[w.heap.size + 1]? = some (.cells #[.string p.p0,.string p.p1,.string p.p2,.string p.p3,.string p.p4,.string p.p5] 37 (0,0))) ∧ Aside0 (wr.heap[w.heap.size + 1 + 1]? = some (.cells #[.string ⟨#[]⟩,.string ⟨#[]⟩] 27 (0,0))) ∧ Aside0 (wr.heap[w.heap.size + 1 + 1 + 1]? = some o) ∧ Aside0 (∀ W:World,W.heap[w.heap.size + 1 + 1 + 1]? = some o → W.ownsMap Try.prog 37 (plainElem Try.prog 3) (w.heap.size + 1 + 1 + 1) seen.length D) ∧ Aside0 (IsMap D ∧ Tie seen D) ∧ Aside0 (Below w.heap.size w wr) ∧ Aside0 (w.heap.size + 4 ≤ wr.heap.size))
 case atStart =>
  have s1:(w.alloc (.cells #[.string a0_0,.string a0_1] 27)).heap.size = w.heap.size + 1:=by simp
  have s2:((w.alloc (.cells #[.string a0_0,.string a0_1] 27)).alloc (.cells #[.string a1_0,.string a1_1,.string a1_2,.string a1_3,.string a1_4,.string a1_5] 37)).heap.size = w.heap.size + 1 + 1:=by simp
  have s3:(((w.alloc (.cells #[.string a0_0,.string a0_1] 27)).alloc (.cells #[.string a1_0,.string a1_1,.string a1_2,.string a1_3,.string a1_4,.string a1_5] 37)).alloc (.cells #[.string ⟨#[]⟩,.string ⟨#[]⟩] 27)).heap.size = w.heap.size + 1 + 1 + 1:=by simp
  exact ⟨⟨a1_0,a1_1,a1_2,a1_3,a1_4,a1_5⟩,_,[],.map [],.map #[] 0,rfl,H',⟨yA (yA (yA (blk_new _ _) _) _) _⟩,⟨s1 ▸ yA (yA (blk_new _ _) _) _⟩,⟨s2 ▸ yA (blk_new _ _) _⟩,⟨s3 ▸ blk_new _ _⟩,⟨fun W hW=>own_empty W _ hW⟩,⟨isMap_empty,Tie.nil⟩,⟨zA (zA (zA (zA (Below.refl _ _) _) _) _) _⟩,⟨by simp⟩⟩
 case round =>
  obtain ⟨p,wd,seen,D,o,rfl,HA,HV,HP,HR,HO,HM,HT,HB,HZ⟩:=hrel
  clear H'
  cases gk with
  | zero=>exact absurd HA.out (by simp [impl_Sequence_middle.l])
  | succ gk =>
   have H:=HA.out
   clear HA
   unfold impl_Sequence_middle.l at H
   by_cases hgd:p.ok ∧ wd.size ≤ 600 ∧ seen.length = wd.size
   case neg=>rw [if_neg hgd] at H;cases H
   rw [if_pos hgd] at H
   obtain ⟨pok,hw6,hsl⟩:=hgd
   obtain ⟨⟨s1,s2,s3⟩,h1,H⟩:=Option.bind_eq_some_iff.1 H
   have CT:Aside0 (∀ W,Calls Try.prog 23 #[.agg #[.string p.p0,.string p.p1,.string p.p2,.string p.p3,.string p.p4,.string p.p5]] W fun e w'=>e = .returned (.tuple #[.agg #[.string s1,.string s2],.bool s3]) ∧ Below W.heap.size W w'):=⟨fun W=>(impl_three_twice.calls gk _ _ _ _ _ _ s1 s2 s3 W h1).mono fun e w' hh=>hh⟩
   clear h1
   have G0:=(blk_cell HP.out 0).trans rfl
   have G1:=(blk_cell HP.out 1).trans rfl
   have G2:=(blk_cell HP.out 2).trans rfl
   have G3:=(blk_cell HP.out 3).trans rfl
   have G4:=(blk_cell HP.out 4).trans rfl
   have G5:=(blk_cell HP.out 5).trans rfl
   cases s3 with
   | true =>
    replace H:(if s1.size ≤ 1000 then midEnd gk (wd ++ s1) s2 else none) = some (r1,r2,r3):=H
    by_cases hz:s1.size ≤ 1000
    case neg=>rw [if_neg hz] at H;cases H
    rw [if_pos hz] at H
    obtain ⟨q1,q2,h2,h3⟩:=short_parts H
    have CS:Aside0 (∀ W,Calls Try.prog 25 #[.string (wd ++ s1),.string s2] W fun e w'=>e = .returned (.agg #[.string q1,.string q2]) ∧ Below W.heap.size W w'):=⟨fun W=>(impl_sequence.calls gk _ _ q1 q2 W h2).mono fun e w' hh=>hh⟩
    have CH:Aside0 (∀ W,Calls Try.prog 24 #[.agg #[.string q1,.string q2]] W fun e w'=>e = .returned (.tuple #[.agg #[.string r1,.string r2],.int .i64 r3]) ∧ Below W.heap.size W w'):=⟨fun W=>(impl_short.calls _ _ r1 r2 r3 W h3).mono fun e w' ⟨he,hd⟩=>⟨he,by first|exact hd|exact hd.below⟩⟩
    clear H h2 h3
    have hcat:=eq_true (show wd.size + s1.size ≤ 9223372036854775807 by omega)
    go_wp2_with (first|(go_at_call 23;refine (CT.out _).mono ?_;rintro e wA ⟨rfl,hb⟩;have nHR_:=aM (blk_below (HR.out) hb);have nHB_:=aM (HB.out.trans (hb.mono (HB.out.size)));have nHZ_:=aM (Nat.le_trans HZ.out (hb.size));clear hb HR HB HZ;have HR:=nHR_;have HB:=nHB_;have HZ:=nHZ_;clear nHR_ nHB_ nHZ_)|(go_at_call 25;refine (CS.out _).mono ?_;rintro e wB ⟨rfl,hb⟩;have nHR_:=aM (blk_below (yA HR.out _) hb);have nHB_:=aM ((HB.out.alloc HB.out.size _).trans (hb.mono (by have:=HB.out.size;simp;omega)));have nHZ_:=aM (Nat.le_trans HZ.out (Nat.le_trans (by simp) hb.size));clear hb HR HB HZ;have HR:=nHR_;have HB:=nHB_;have HZ:=nHZ_;clear nHR_ nHB_ nHZ_)|(go_at_call 24;refine (CH.out _).mono ?_;rintro e wC ⟨rfl,hb⟩;have nHR_:=aM (blk_below (HR.out) hb);have nHB_:=aM (HB.out.trans (hb.mono (HB.out.size)));have nHZ_:=aM (Nat.le_trans HZ.out (hb.size));clear hb HR HB HZ;have HR:=nHR_;have HB:=nHB_;have HZ:=nHZ_;clear nHR_ nHB_ nHZ_;have K0:=(blk_cell HR.out 0).trans rfl;have K1:=(blk_cell HR.out 1).trans rfl;have F0:=blk_frozen HR.out 0;have F1:=blk_frozen HR.out 1))
    refine bodyPost_ret (results_ct rfl _ _ (w.heap.size + 1 + 1) 27 #[.string r1,.string r2] (0,0) _ rfl (by first|exact blk_put (cs:=#[.string r1,.string ⟨#[]⟩]) (blk_put (cs:=#[.string ⟨#[]⟩,.string ⟨#[]⟩]) HR.out 0 _ rfl) 1 _ rfl) Try.underlying27 rfl (by kernel_rfl)) rfl ?_
    exact ⟨rfl,zS (zS HB.out (by omega)) (by omega)⟩
   | false =>
    rw [if_neg (by simp)] at H
    obtain ⟨kl,hkl⟩:=P6.key p pok
    have hkl:keyOf Try.prog 37 (.agg #[.string p.p0,.string p.p1,.string p.p2,.string p.p3,.string p.p4,.string p.p5]) = some kl:=hkl
    have u51:=Try.underlying51
    have u3:=Try.underlying3
    cases hi:idx6 seen p with
    | some i =>
     rw [hi] at H
     replace H:midEnd gk (wd.extract 0 i) (wd.extract i wd.size) = some (r1,r2,r3):=H
     obtain ⟨hhas,hat0⟩:=(HT.out.2 p kl hkl).2 i hi
     have hil:i < wd.size:=by have:=idx6_lt _ _ _ hi;omega
     obtain ⟨q1,q2,h2,h3⟩:=short_parts H
     have CS:Aside0 (∀ W,Calls Try.prog 25 #[.string (wd.extract 0 i),.string (wd.extract i wd.size)] W fun e w'=>e = .returned (.agg #[.string q1,.string q2]) ∧ Below W.heap.size W w'):=⟨fun W=>(impl_sequence.calls gk _ _ q1 q2 W h2).mono fun e w' hh=>hh⟩
     have CH:Aside0 (∀ W,Calls Try.prog 24 #[.agg #[.string q1,.string q2]] W fun e w'=>e = .returned (.tuple #[.agg #[.string r1,.string r2],.int .i64 r3]) ∧ Below W.heap.size W w'):=⟨fun W=>(impl_short.calls _ _ r1 r2 r3 W h3).mono fun e w' ⟨he,hd⟩=>⟨he,by first|exact hd|exact hd.below⟩⟩
     clear H h2 h3
     go_wp2_with (first|(go_at_call 23;refine (CT.out _).mono ?_;rintro e wA ⟨rfl,hb⟩;have nHV_:=aM (blk_below (HV.out) hb);have nHP_:=aM (blk_below (HP.out) hb);have nHR_:=aM (blk_below (HR.out) hb);have nHO_:=aM (blk_below (HO.out) hb);have nHB_:=aM (HB.out.trans (hb.mono (HB.out.size)));have nHZ_:=aM (Nat.le_trans HZ.out (hb.size));clear hb HV HP HR HO HB HZ;have HV:=nHV_;have HP:=nHP_;have HR:=nHR_;have HO:=nHO_;have HB:=nHB_;have HZ:=nHZ_;clear nHV_ nHP_ nHR_ nHO_ nHB_ nHZ_;have G0:=(blk_cell (yA HP.out (.cells #[.string s1,.string s2] 27)) 0).trans rfl;have G1:=(blk_cell (yA HP.out (.cells #[.string s1,.string s2] 27)) 1).trans rfl;have G2:=(blk_cell (yA HP.out (.cells #[.string s1,.string s2] 27)) 2).trans rfl;have G3:=(blk_cell (yA HP.out (.cells #[.string s1,.string s2] 27)) 3).trans rfl;have G4:=(blk_cell (yA HP.out (.cells #[.string s1,.string s2] 27)) 4).trans rfl;have G5:=(blk_cell (yA HP.out (.cells #[.string s1,.string s2] 27)) 5).trans rfl)|(at_lookup;refine wpList_lookup_own_ok_int _ rfl _ _ 51 rfl 37 3 .i64 law37 u51 u3 (zero3 _) (w.heap.size + 1 + 1 + 1) seen.length D rfl (HM.out _ (yA HO.out _)) _ kl rfl hkl ?_;intro c hat hwc;rw [hhas];obtain rfl:c = (i:Int):=Lit.int_inj2 (hat.symm.trans hat0)))
     have hc2:=eq_true (show i ≤ wd.size by omega)
     have nR:=aM (yD (yA HR.out (.cells #[.string s1,.string s2] 27)));have nB:=aM (zD (zA HB.out (.cells #[.string s1,.string s2] 27)))
     clear HR HB HV HP HO HM HT HZ
     have HR:=nR
     have HB:=nB
     clear nR nB
     refine start_ (n:=12) (S:=fun w'=>True) (ds:=[]) #[fF,fF,fF,fF,fF,fF,fF,fF,fF,fF,fF,fF] (by kernel_rfl) rfl rfl trivial (fun hHeld=>?_)
     refine pure_ (i:=0) (N:=some 38) (v:=?_) (a':=?_) #[tT,fF,fF,fF,fF,fF,fF,fF,fF,fF,fF,fF] rfl rfl (by kernel_rfl) (fun _ _ _ h=>h) (Or.inl ⟨by rfl,?_⟩) ?_ ?_
     rotate_left
     ·intro w'
      go_simp
      with_reducible rfl
     rotate_left
     ·simp only [Act.put,sI,sZ,sS,i64_w,i32_w]
      rfl
     refine pure_ (i:=1) (N:=some 39) (v:=?_) (a':=?_) #[tT,tT,fF,fF,fF,fF,fF,fF,fF,fF,fF,fF] rfl rfl (by kernel_rfl) (fun _ _ _ h=>h) (Or.inl ⟨by rfl,?_⟩) ?_ ?_
     rotate_left
     ·intro w'
      go_simp
      with_reducible rfl
     rotate_left
     ·simp only [Act.put,sI,sZ,sS,i64_w,i32_w]
      rfl
     refine pure_ (i:=2) (N:=some 40) (v:=?_) (a':=?_) #[tT,tT,tT,fF,fF,fF,fF,fF,fF,fF,fF,fF] rfl rfl (by kernel_rfl) (fun _ _ _ h=>h) (Or.inl ⟨by rfl,?_⟩) ?_ ?_
     rotate_left
     ·intro w'
      go_simp
      with_reducible rfl
     rotate_left
     ·simp only [Act.put,sI,sZ,sS,i64_w,i32_w]
      rfl
     refine pure_ (i:=3) (N:=some 41) (v:=?_) (a':=?_) #[tT,tT,tT,tT,fF,fF,fF,fF,fF,fF,fF,fF] rfl rfl (by kernel_rfl) (fun _ _ _ h=>h) (Or.inl ⟨by rfl,?_⟩) ?_ ?_
     rotate_left
     ·intro w'
      go_simp
      with_reducible rfl
     rotate_left
     ·simp only [Act.put,sI,sZ,sS,i64_w,i32_w]
      rfl
     refine pure_ (i:=4) (N:=some 42) (v:=?_) (a':=?_) #[tT,tT,tT,tT,tT,fF,fF,fF,fF,fF,fF,fF] rfl rfl (by kernel_rfl) (fun _ _ _ h=>h) (Or.inl ⟨by rfl,?_⟩) ?_ ?_
     rotate_left
     ·intro w'
      go_simp
      with_reducible rfl
     rotate_left
     ·simp only [Act.put,sI,sZ,sS,i64_w,i32_w]
      rfl
     refine pure_ (i:=5) (N:=some 43) (v:=?_) (a':=?_) #[tT,tT,tT,tT,tT,tT,fF,fF,fF,fF,fF,fF] rfl rfl (by kernel_rfl) (fun _ _ _ h=>h) (Or.inl ⟨by rfl,?_⟩) ?_ ?_
     rotate_left
     ·intro w'
      go_simp
      with_reducible rfl
     rotate_left
     ·simp only [Act.put,sI,sZ,sS,i64_w,i32_w]
      rfl
     refine one_ (i:=6) (N:=some 44) #[tT,tT,tT,tT,tT,tT,tT,fF,fF,fF,fF,fF] rfl rfl (by kernel_rfl) (by decide) (fun K hK=>?_)
     refine goes_ Try.func25 (by kernel_rfl) rfl #[.string (wd.extract 0 i),.string (wd.extract i wd.size)] (by rfl) rfl rfl (by simp only [sM,sC,sN];rfl) ?_
     with_reducible refine (CS.out _).mono ?_
     rintro e wB ⟨rfl,hb⟩
     refine ⟨_,rfl,?_⟩
     have nHR_:=aM (blk_below (HR.out) hb);have nHB_:=aM (HB.out.trans (hb.mono (HB.out.size)))
     clear hb HR HB
     have HR:=nHR_
     have HB:=nHB_
     clear nHR_ nHB_
     refine hK.out _ _ trivial (fun hHeld=>?_)
     clear hK K
     refine norm_ (a':=?_) ?_ ?_
     rotate_left
     ·show Act.put _ (some 44) _ = _
      simp only [Act.put,sI,sZ,sS,i64_w,i32_w]
      rfl
     refine one_ (i:=7) (N:=some 45) #[tT,tT,tT,tT,tT,tT,tT,tT,fF,fF,fF,fF] rfl rfl (by kernel_rfl) (by decide) (fun K hK=>?_)
     refine goes_ Try.func24 (by kernel_rfl) rfl #[.agg #[.string q1,.string q2]] (by rfl) rfl rfl (by simp only [sM,sC,sN];rfl) ?_
     with_reducible refine (CH.out _).mono ?_
     rintro e wC ⟨rfl,hb⟩
     refine ⟨_,rfl,?_⟩
     have nHR_:=aM (blk_below (HR.out) hb);have nHB_:=aM (HB.out.trans (hb.mono (HB.out.size)))
     clear hb HR HB
     have HR:=nHR_
     have HB:=nHB_
     clear nHR_ nHB_
     have K0:=(blk_cell HR.out 0).trans rfl
     have K1:=(blk_cell HR.out 1).trans rfl
     have F0:=blk_frozen HR.out 0
     have F1:=blk_frozen HR.out 1
     refine hK.out _ _ trivial (fun hHeld=>?_)
     clear hK K
     refine norm_ (a':=?_) ?_ ?_
     rotate_left
     ·show Act.put _ (some 45) _ = _
      simp only [Act.put,sI,sZ,sS,i64_w,i32_w]
      rfl
     refine pure_ (i:=8) (N:=some 46) (v:=?_) (a':=?_) #[tT,tT,tT,tT,tT,tT,tT,tT,tT,fF,fF,fF] rfl rfl (by kernel_rfl) (fun _ _ _ h=>h) (Or.inl ⟨by rfl,?_⟩) ?_ ?_
     rotate_left
     ·intro w'
      go_simp
      with_reducible rfl
     rotate_left
     ·simp only [Act.put,sI,sZ,sS,i64_w,i32_w]
      rfl
     refine pure_ (i:=9) (N:=some 47) (v:=?_) (a':=?_) #[tT,tT,tT,tT,tT,tT,tT,tT,tT,tT,fF,fF] rfl rfl (by kernel_rfl) (fun _ _ _ h=>h) (Or.inl ⟨by rfl,?_⟩) ?_ ?_
     rotate_left
     ·intro w'
      go_simp
      with_reducible rfl
     rotate_left
     ·simp only [Act.put,sI,sZ,sS,i64_w,i32_w]
      rfl
     refine one_ (i:=10) (N:=none) #[tT,tT,tT,tT,tT,tT,tT,tT,tT,tT,tT,fF] rfl rfl (by kernel_rfl) (by decide) (fun K hK=>?_)
     refine skip_ (w1:=?_) (by rfl) rfl ?_ ?_
     rotate_left
     ·go_simp
      rfl
     refine hK.out _ _ trivial (fun hHeld=>?_)
     clear hK K
     refine pure_ (i:=11) (N:=some 5) (v:=?_) (a':=?_) #[tT,tT,tT,tT,tT,tT,tT,tT,tT,tT,tT,tT] rfl rfl (by kernel_rfl) (fun _ _ _ h=>h) (Or.inl ⟨by rfl,?_⟩) ?_ ?_
     rotate_left
     ·intro w'
      go_simp
      with_reducible rfl
     rotate_left
     ·simp only [Act.put,sI,sZ,sS,i64_w,i32_w]
      rfl
     refine done_ (by kernel_rfl) ?_
     try go_wp2
     refine bodyPost_ret (results_ct rfl _ _ (w.heap.size + 1 + 1) 27 #[.string r1,.string r2] (0,0) _ rfl (by first|exact blk_put (cs:=#[.string r1,.string ⟨#[]⟩]) (blk_put (cs:=#[.string ⟨#[]⟩,.string ⟨#[]⟩]) HR.out 0 _ rfl) 1 _ rfl) Try.underlying27 rfl (by kernel_rfl)) rfl ?_
     exact ⟨rfl,zS (zS HB.out (by omega)) (by omega)⟩
    | none =>
     rw [hi] at H
     obtain ⟨⟨lt,st⟩,h4,H⟩:=Option.bind_eq_some_iff.1 H
     have hhas:=(HT.out.2 p kl hkl).1 hi
     have CV:Aside0 (∀ W,Calls Try.prog 26 #[.agg #[.string p.p0,.string p.p1,.string p.p2,.string p.p3,.string p.p4,.string p.p5]] W fun e w'=>e = .returned (.tuple #[.int .u8 lt,.int .i64 st]) ∧ Below W.heap.size W w'):=⟨fun W=>impl_three_vote.calls _ _ _ _ _ _ lt st W h4⟩
     clear h4
     replace H:(if 0 ≤ st then (if st = 0 then midEnd gk (wd ++ p.p0) p.p1 else if st = 1 then midEnd gk (wd ++ p.p2) p.p3 else if st = 2 then midEnd gk (wd ++ p.p4) p.p5 else none)
      else if wd.size = 600 then some (⟨#[]⟩,⟨#[]⟩,3)
      else if lt = 48 ∨ lt = 49 then (impl_Sequence_moved.f a0_0 a0_1 p.p0 p.p1 p.p2 p.p3 p.p4 p.p5 lt).bind fun y=>impl_Sequence_middle.l a0_0 a0_1 gk ⟨y.1,y.2.1,y.2.2.1,y.2.2.2.1,y.2.2.2.2.1,y.2.2.2.2.2⟩ (wd ++ Utf8.encode lt) (seen ++ [p])
      else none) = some (r1,r2,r3):=H
     by_cases hst:0 ≤ st
     ·rw [if_pos hst] at H
      have hst':st = 0 ∨ st = 1 ∨ st = 2:=by
       by_cases e0:st = 0
       ·exact .inl e0
       by_cases e1:st = 1
       ·exact .inr (.inl e1)
       by_cases e2:st = 2
       ·exact .inr (.inr e2)
       rw [if_neg e0,if_neg e1,if_neg e2] at H
       cases H
      clear hst
      rcases hst' with e0|e1|e2
      ·subst e0
       replace H:midEnd gk (wd ++ p.p0) p.p1 = some (r1,r2,r3):=H
       obtain ⟨q1,q2,h2,h3⟩:=short_parts H
       have CS:Aside0 (∀ W,Calls Try.prog 25 #[.string (wd ++ p.p0),.string p.p1] W fun e w'=>e = .returned (.agg #[.string q1,.string q2]) ∧ Below W.heap.size W w'):=⟨fun W=>(impl_sequence.calls gk _ _ q1 q2 W h2).mono fun e w' hh=>hh⟩
       have CH:Aside0 (∀ W,Calls Try.prog 24 #[.agg #[.string q1,.string q2]] W fun e w'=>e = .returned (.tuple #[.agg #[.string r1,.string r2],.int .i64 r3]) ∧ Below W.heap.size W w'):=⟨fun W=>(impl_short.calls _ _ r1 r2 r3 W h3).mono fun e w' ⟨he,hd⟩=>⟨he,by first|exact hd|exact hd.below⟩⟩
       clear H h2 h3
       have hcat:=eq_true (show wd.size + p.p0.size ≤ 9223372036854775807 by have:=pok.1;omega)
       have hcat2:=eq_false (show ¬ 9223372036854775807 < wd.size + p.p0.size by have:=pok.1;omega)
       go_wp2_with (first|(go_at_call 23;refine (CT.out _).mono ?_;rintro e wA ⟨rfl,hb⟩;have nHV_:=aM (blk_below (HV.out) hb);have nHP_:=aM (blk_below (HP.out) hb);have nHR_:=aM (blk_below (HR.out) hb);have nHO_:=aM (blk_below (HO.out) hb);have nHB_:=aM (HB.out.trans (hb.mono (HB.out.size)));have nHZ_:=aM (Nat.le_trans HZ.out (hb.size));clear hb HV HP HR HO HB HZ;have HV:=nHV_;have HP:=nHP_;have HR:=nHR_;have HO:=nHO_;have HB:=nHB_;have HZ:=nHZ_;clear nHV_ nHP_ nHR_ nHO_ nHB_ nHZ_;have G0:=(blk_cell (yA HP.out (.cells #[.string s1,.string s2] 27)) 0).trans rfl;have G1:=(blk_cell (yA HP.out (.cells #[.string s1,.string s2] 27)) 1).trans rfl;have G2:=(blk_cell (yA HP.out (.cells #[.string s1,.string s2] 27)) 2).trans rfl;have G3:=(blk_cell (yA HP.out (.cells #[.string s1,.string s2] 27)) 3).trans rfl;have G4:=(blk_cell (yA HP.out (.cells #[.string s1,.string s2] 27)) 4).trans rfl;have G5:=(blk_cell (yA HP.out (.cells #[.string s1,.string s2] 27)) 5).trans rfl)|(at_lookup;refine wpList_lookup_own_ok_int _ rfl _ _ 51 rfl 37 3 .i64 law37 u51 u3 (zero3 _) (w.heap.size + 1 + 1 + 1) seen.length D rfl (HM.out _ (yA HO.out _)) _ kl rfl hkl ?_;intro c hat hwc;rw [hhas];clear hat hwc)|(go_at_call 26;refine (CV.out _).mono ?_;rintro e wB ⟨rfl,hb⟩;have nHV_:=aM (blk_below (yA HV.out _) hb);have nHP_:=aM (blk_below (yA HP.out _) hb);have nHR_:=aM (blk_below (yA HR.out _) hb);have nHO_:=aM (blk_below (yA HO.out _) hb);have nHB_:=aM ((HB.out.alloc HB.out.size _).trans (hb.mono (by have:=HB.out.size;simp;omega)));have nHZ_:=aM (Nat.le_trans HZ.out (Nat.le_trans (by simp) hb.size));clear hb HV HP HR HO HB HZ;have HV:=nHV_;have HP:=nHP_;have HR:=nHR_;have HO:=nHO_;have HB:=nHB_;have HZ:=nHZ_;clear nHV_ nHP_ nHR_ nHO_ nHB_ nHZ_;have G0:=(blk_cell HP.out 0).trans rfl;have G1:=(blk_cell HP.out 1).trans rfl;have G2:=(blk_cell HP.out 2).trans rfl;have G3:=(blk_cell HP.out 3).trans rfl;have G4:=(blk_cell HP.out 4).trans rfl;have G5:=(blk_cell HP.out 5).trans rfl;have K0:=(blk_cell HR.out 0).trans rfl;have K1:=(blk_cell HR.out 1).trans rfl;have F0:=blk_frozen HR.out 0;have F1:=blk_frozen HR.out 1))
       have nP:=aM (yD HP.out);have nR:=aM (yD HR.out);have nB:=aM (zD HB.out)
       clear HR HB HV HP HO HM HT HZ
       have HP:=nP
       have HR:=nR
       have HB:=nB
       clear nP nR nB
       refine start_ (n:=16) (S:=fun w'=>w'.cell? ⟨w.heap.size + 1,0,none⟩ = some (.string p.p0) ∧ w'.cell? ⟨w.heap.size + 1,1,none⟩ = some (.string p.p1)) (ds:=[]) #[fF,fF,fF,fF,fF,fF,fF,fF,fF,fF,fF,fF,fF,fF,fF,fF] (by kernel_rfl) rfl rfl ⟨(blk_cell HP.out 0).trans rfl,(blk_cell HP.out 1).trans rfl⟩ (fun hHeld=>?_)
       refine pure_ (i:=0) (N:=some 55) (v:=?_) (a':=?_) #[tT,fF,fF,fF,fF,fF,fF,fF,fF,fF,fF,fF,fF,fF,fF,fF] rfl rfl (by kernel_rfl) (fun _ _ _ h=>h) (Or.inl ⟨by rfl,?_⟩) ?_ ?_
       rotate_left
       ·intro w'
        go_simp
        with_reducible rfl
       rotate_left
       ·simp only [Act.put,sI,sZ,sS,i64_w,i32_w]
        rfl
       refine pure_ (i:=1) (N:=some 56) (v:=?_) (a':=?_) #[tT,tT,fF,fF,fF,fF,fF,fF,fF,fF,fF,fF,fF,fF,fF,fF] rfl rfl (by kernel_rfl) (fun _ _ _ h=>h) (Or.inl ⟨by rfl,?_⟩) ?_ ?_
       rotate_left
       ·intro w'
        go_simp
        with_reducible rfl
       rotate_left
       ·simp only [Act.put,sI,sZ,sS,i64_w,i32_w]
        rfl
       refine pure_ (i:=2) (N:=some 57) (v:=?_) (a':=?_) #[tT,tT,tT,fF,fF,fF,fF,fF,fF,fF,fF,fF,fF,fF,fF,fF] rfl rfl (by kernel_rfl) (fun _ _ _ h=>h) (Or.inl ⟨by rfl,?_⟩) ?_ ?_
       rotate_left
       ·intro w'
        go_simp
        with_reducible rfl
       rotate_left
       ·simp only [Act.put,sI,sZ,sS,i64_w,i32_w]
        rfl
       refine pure_ (i:=3) (N:=some 58) (v:=?_) (a':=?_) #[tT,tT,tT,tT,fF,fF,fF,fF,fF,fF,fF,fF,fF,fF,fF,fF] rfl rfl (by kernel_rfl) (fun _ _ _ h=>h) (Or.inl ⟨by rfl,?_⟩) ?_ ?_
       rotate_left
       ·intro w'
        go_simp
        with_reducible rfl
       rotate_left
       ·simp only [Act.put,sI,sZ,sS,i64_w,i32_w]
        rfl
       refine pure_ (i:=6) (N:=some 61) (v:=?_) (a':=?_) #[tT,tT,tT,tT,fF,fF,tT,fF,fF,fF,fF,fF,fF,fF,fF,fF] rfl rfl (by kernel_rfl) (fun _ _ _ h=>h) (Or.inl ⟨by rfl,?_⟩) ?_ ?_
       rotate_left
       ·intro w'
        go_simp
        with_reducible rfl
       rotate_left
       ·simp only [Act.put,sI,sZ,sS,i64_w,i32_w]
        rfl
       refine pure_ (i:=7) (N:=some 62) (v:=?_) (a':=?_) #[tT,tT,tT,tT,fF,fF,tT,tT,fF,fF,fF,fF,fF,fF,fF,fF] rfl rfl (by kernel_rfl) (fun _ _ _ h=>h) (Or.inl ⟨by rfl,?_⟩) ?_ ?_
       rotate_left
       ·intro w'
        go_simp
        with_reducible rfl
       rotate_left
       ·simp only [Act.put,sI,sZ,sS,i64_w,i32_w]
        rfl
       refine pure_ (i:=8) (N:=some 63) (v:=?_) (a':=?_) #[tT,tT,tT,tT,fF,fF,tT,tT,tT,fF,fF,fF,fF,fF,fF,fF] rfl rfl (by kernel_rfl) (fun _ _ _ h=>h) (Or.inl ⟨by rfl,?_⟩) ?_ ?_
       rotate_left
       ·intro w'
        go_simp
        with_reducible rfl
       rotate_left
       ·simp only [Act.put,sI,sZ,sS,i64_w,i32_w]
        rfl
       refine take_ (i:=4) (N:=some 59) (v:=?_) (a':=?_) #[tT,tT,tT,tT,tT,fF,tT,tT,tT,fF,fF,fF,fF,fF,fF,fF] rfl rfl (by kernel_rfl) (fun _ _ _ h=>h) (Or.inl ⟨by rfl,?_⟩) hHeld ?_ ?_
       rotate_left
       ·rintro w' ⟨s0,s1⟩
        go_simp
        with_reducible rfl
       rotate_left
       ·simp only [Act.put,sI,sZ,sS,i64_w,i32_w]
        rfl
       refine pure_ (i:=5) (N:=some 60) (v:=?_) (a':=?_) #[tT,tT,tT,tT,tT,tT,tT,tT,tT,fF,fF,fF,fF,fF,fF,fF] rfl rfl (by kernel_rfl) (fun _ _ _ h=>h) (Or.inl ⟨by rfl,?_⟩) ?_ ?_
       rotate_left
       ·intro w'
        go_simp
        with_reducible rfl
       rotate_left
       ·simp only [Act.put,sI,sZ,sS,i64_w,i32_w]
        rfl
       refine take_ (i:=9) (N:=some 64) (v:=?_) (a':=?_) #[tT,tT,tT,tT,tT,tT,tT,tT,tT,tT,fF,fF,fF,fF,fF,fF] rfl rfl (by kernel_rfl) (fun _ _ _ h=>h) (Or.inl ⟨by rfl,?_⟩) hHeld ?_ ?_
       rotate_left
       ·rintro w' ⟨s0,s1⟩
        go_simp
        with_reducible rfl
       rotate_left
       ·simp only [Act.put,sI,sZ,sS,i64_w,i32_w]
        rfl
       refine one_ (i:=10) (N:=some 65) #[tT,tT,tT,tT,tT,tT,tT,tT,tT,tT,tT,fF,fF,fF,fF,fF] rfl rfl (by kernel_rfl) (by decide) (fun K hK=>?_)
       refine goes_ Try.func25 (by kernel_rfl) rfl #[.string (wd ++ p.p0),.string p.p1] (by rfl) rfl rfl (by simp only [sM,sC,sN];rfl) ?_
       with_reducible refine (CS.out _).mono ?_
       rintro e wC ⟨rfl,hb⟩
       refine ⟨_,rfl,?_⟩
       have nHP_:=aM (blk_below (HP.out) hb);have nHR_:=aM (blk_below (HR.out) hb);have nHB_:=aM (HB.out.trans (hb.mono (HB.out.size)))
       clear hb HP HR HB
       have HP:=nHP_
       have HR:=nHR_
       have HB:=nHB_
       clear nHP_ nHR_ nHB_
       refine hK.out _ _ ⟨(blk_cell HP.out 0).trans rfl,(blk_cell HP.out 1).trans rfl⟩ (fun hHeld=>?_)
       clear hK K
       refine norm_ (a':=?_) ?_ ?_
       rotate_left
       ·show Act.put _ (some 65) _ = _
        simp only [Act.put,sI,sZ,sS,i64_w,i32_w]
        rfl
       refine one_ (i:=11) (N:=some 66) #[tT,tT,tT,tT,tT,tT,tT,tT,tT,tT,tT,tT,fF,fF,fF,fF] rfl rfl (by kernel_rfl) (by decide) (fun K hK=>?_)
       refine goes_ Try.func24 (by kernel_rfl) rfl #[.agg #[.string q1,.string q2]] (by rfl) rfl rfl (by simp only [sM,sC,sN];rfl) ?_
       with_reducible refine (CH.out _).mono ?_
       rintro e wD ⟨rfl,hb⟩
       refine ⟨_,rfl,?_⟩
       have nHP_:=aM (blk_below (HP.out) hb);have nHR_:=aM (blk_below (HR.out) hb);have nHB_:=aM (HB.out.trans (hb.mono (HB.out.size)))
       clear hb HP HR HB
       have HP:=nHP_
       have HR:=nHR_
       have HB:=nHB_
       clear nHP_ nHR_ nHB_
       have K0:=(blk_cell HR.out 0).trans rfl
       have K1:=(blk_cell HR.out 1).trans rfl
       have F0:=blk_frozen HR.out 0
       have F1:=blk_frozen HR.out 1
       refine hK.out _ _ ⟨(blk_cell HP.out 0).trans rfl,(blk_cell HP.out 1).trans rfl⟩ (fun hHeld=>?_)
       clear hK K
       refine norm_ (a':=?_) ?_ ?_
       rotate_left
       ·show Act.put _ (some 66) _ = _
        simp only [Act.put,sI,sZ,sS,i64_w,i32_w]
        rfl
       refine pure_ (i:=12) (N:=some 67) (v:=?_) (a':=?_) #[tT,tT,tT,tT,tT,tT,tT,tT,tT,tT,tT,tT,tT,fF,fF,fF] rfl rfl (by kernel_rfl) (fun _ _ _ h=>h) (Or.inl ⟨by rfl,?_⟩) ?_ ?_
       rotate_left
       ·intro w'
        go_simp
        with_reducible rfl
       rotate_left
       ·simp only [Act.put,sI,sZ,sS,i64_w,i32_w]
        rfl
       refine pure_ (i:=13) (N:=some 68) (v:=?_) (a':=?_) #[tT,tT,tT,tT,tT,tT,tT,tT,tT,tT,tT,tT,tT,tT,fF,fF] rfl rfl (by kernel_rfl) (fun _ _ _ h=>h) (Or.inl ⟨by rfl,?_⟩) ?_ ?_
       rotate_left
       ·intro w'
        go_simp
        with_reducible rfl
       rotate_left
       ·simp only [Act.put,sI,sZ,sS,i64_w,i32_w]
        rfl
       refine one_ (i:=14) (N:=none) #[tT,tT,tT,tT,tT,tT,tT,tT,tT,tT,tT,tT,tT,tT,tT,fF] rfl rfl (by kernel_rfl) (by decide) (fun K hK=>?_)
       refine skip_ (w1:=?_) (by rfl) rfl ?_ ?_
       rotate_left
       ·go_simp
        rfl
       refine hK.out _ _ ⟨(blk_cell (blk_far (blk_far HP.out (by first|(simp;done)|(simp;omega)) _) (by first|(simp;done)|(simp;omega)) _) 0).trans rfl,(blk_cell (blk_far (blk_far HP.out (by first|(simp;done)|(simp;omega)) _) (by first|(simp;done)|(simp;omega)) _) 1).trans rfl⟩ (fun hHeld=>?_)
       clear hK K
       refine pure_ (i:=15) (N:=some 5) (v:=?_) (a':=?_) #[tT,tT,tT,tT,tT,tT,tT,tT,tT,tT,tT,tT,tT,tT,tT,tT] rfl rfl (by kernel_rfl) (fun _ _ _ h=>h) (Or.inl ⟨by rfl,?_⟩) ?_ ?_
       rotate_left
       ·intro w'
        go_simp
        with_reducible rfl
       rotate_left
       ·simp only [Act.put,sI,sZ,sS,i64_w,i32_w]
        rfl
       refine done_ (by kernel_rfl) ?_
       try go_wp2
       refine bodyPost_ret (results_ct rfl _ _ (w.heap.size + 1 + 1) 27 #[.string r1,.string r2] (0,0) _ rfl (by first|exact blk_put (cs:=#[.string r1,.string ⟨#[]⟩]) (blk_put (cs:=#[.string ⟨#[]⟩,.string ⟨#[]⟩]) HR.out 0 _ rfl) 1 _ rfl) Try.underlying27 rfl (by kernel_rfl)) rfl ?_
       exact ⟨rfl,zS (zS HB.out (by omega)) (by omega)⟩
      ·subst e1
       replace H:midEnd gk (wd ++ p.p2) p.p3 = some (r1,r2,r3):=H
       obtain ⟨q1,q2,h2,h3⟩:=short_parts H
       have CS:Aside0 (∀ W,Calls Try.prog 25 #[.string (wd ++ p.p2),.string p.p3] W fun e w'=>e = .returned (.agg #[.string q1,.string q2]) ∧ Below W.heap.size W w'):=⟨fun W=>(impl_sequence.calls gk _ _ q1 q2 W h2).mono fun e w' hh=>hh⟩
       have CH:Aside0 (∀ W,Calls Try.prog 24 #[.agg #[.string q1,.string q2]] W fun e w'=>e = .returned (.tuple #[.agg #[.string r1,.string r2],.int .i64 r3]) ∧ Below W.heap.size W w'):=⟨fun W=>(impl_short.calls _ _ r1 r2 r3 W h3).mono fun e w' ⟨he,hd⟩=>⟨he,by first|exact hd|exact hd.below⟩⟩
       clear H h2 h3
       have hcat:=eq_true (show wd.size + p.p2.size ≤ 9223372036854775807 by have:=pok.2.2.1;omega)
       have hcat2:=eq_false (show ¬ 9223372036854775807 < wd.size + p.p2.size by have:=pok.2.2.1;omega)
       go_wp2_with (first|(go_at_call 23;refine (CT.out _).mono ?_;rintro e wA ⟨rfl,hb⟩;have nHV_:=aM (blk_below (HV.out) hb);have nHP_:=aM (blk_below (HP.out) hb);have nHR_:=aM (blk_below (HR.out) hb);have nHO_:=aM (blk_below (HO.out) hb);have nHB_:=aM (HB.out.trans (hb.mono (HB.out.size)));have nHZ_:=aM (Nat.le_trans HZ.out (hb.size));clear hb HV HP HR HO HB HZ;have HV:=nHV_;have HP:=nHP_;have HR:=nHR_;have HO:=nHO_;have HB:=nHB_;have HZ:=nHZ_;clear nHV_ nHP_ nHR_ nHO_ nHB_ nHZ_;have G0:=(blk_cell (yA HP.out (.cells #[.string s1,.string s2] 27)) 0).trans rfl;have G1:=(blk_cell (yA HP.out (.cells #[.string s1,.string s2] 27)) 1).trans rfl;have G2:=(blk_cell (yA HP.out (.cells #[.string s1,.string s2] 27)) 2).trans rfl;have G3:=(blk_cell (yA HP.out (.cells #[.string s1,.string s2] 27)) 3).trans rfl;have G4:=(blk_cell (yA HP.out (.cells #[.string s1,.string s2] 27)) 4).trans rfl;have G5:=(blk_cell (yA HP.out (.cells #[.string s1,.string s2] 27)) 5).trans rfl)|(at_lookup;refine wpList_lookup_own_ok_int _ rfl _ _ 51 rfl 37 3 .i64 law37 u51 u3 (zero3 _) (w.heap.size + 1 + 1 + 1) seen.length D rfl (HM.out _ (yA HO.out _)) _ kl rfl hkl ?_;intro c hat hwc;rw [hhas];clear hat hwc)|(go_at_call 26;refine (CV.out _).mono ?_;rintro e wB ⟨rfl,hb⟩;have nHV_:=aM (blk_below (yA HV.out _) hb);have nHP_:=aM (blk_below (yA HP.out _) hb);have nHR_:=aM (blk_below (yA HR.out _) hb);have nHO_:=aM (blk_below (yA HO.out _) hb);have nHB_:=aM ((HB.out.alloc HB.out.size _).trans (hb.mono (by have:=HB.out.size;simp;omega)));have nHZ_:=aM (Nat.le_trans HZ.out (Nat.le_trans (by simp) hb.size));clear hb HV HP HR HO HB HZ;have HV:=nHV_;have HP:=nHP_;have HR:=nHR_;have HO:=nHO_;have HB:=nHB_;have HZ:=nHZ_;clear nHV_ nHP_ nHR_ nHO_ nHB_ nHZ_;have G0:=(blk_cell HP.out 0).trans rfl;have G1:=(blk_cell HP.out 1).trans rfl;have G2:=(blk_cell HP.out 2).trans rfl;have G3:=(blk_cell HP.out 3).trans rfl;have G4:=(blk_cell HP.out 4).trans rfl;have G5:=(blk_cell HP.out 5).trans rfl;have K0:=(blk_cell HR.out 0).trans rfl;have K1:=(blk_cell HR.out 1).trans rfl;have F0:=blk_frozen HR.out 0;have F1:=blk_frozen HR.out 1))
       have nP:=aM (yD HP.out);have nR:=aM (yD HR.out);have nB:=aM (zD HB.out)
       clear HR HB HV HP HO HM HT HZ
       have HP:=nP
       have HR:=nR
       have HB:=nB
       clear nP nR nB
       refine start_ (n:=16) (S:=fun w'=>w'.cell? ⟨w.heap.size + 1,2,none⟩ = some (.string p.p2) ∧ w'.cell? ⟨w.heap.size + 1,3,none⟩ = some (.string p.p3)) (ds:=[]) #[fF,fF,fF,fF,fF,fF,fF,fF,fF,fF,fF,fF,fF,fF,fF,fF] (by kernel_rfl) rfl rfl ⟨(blk_cell HP.out 2).trans rfl,(blk_cell HP.out 3).trans rfl⟩ (fun hHeld=>?_)
       refine pure_ (i:=0) (N:=some 55) (v:=?_) (a':=?_) #[tT,fF,fF,fF,fF,fF,fF,fF,fF,fF,fF,fF,fF,fF,fF,fF] rfl rfl (by kernel_rfl) (fun _ _ _ h=>h) (Or.inl ⟨by rfl,?_⟩) ?_ ?_
       rotate_left
       ·intro w'
        go_simp
        with_reducible rfl
       rotate_left
       ·simp only [Act.put,sI,sZ,sS,i64_w,i32_w]
        rfl
       refine pure_ (i:=1) (N:=some 56) (v:=?_) (a':=?_) #[tT,tT,fF,fF,fF,fF,fF,fF,fF,fF,fF,fF,fF,fF,fF,fF] rfl rfl (by kernel_rfl) (fun _ _ _ h=>h) (Or.inl ⟨by rfl,?_⟩) ?_ ?_
       rotate_left
       ·intro w'
        go_simp
        with_reducible rfl
       rotate_left
       ·simp only [Act.put,sI,sZ,sS,i64_w,i32_w]
        rfl
       refine pure_ (i:=2) (N:=some 57) (v:=?_) (a':=?_) #[tT,tT,tT,fF,fF,fF,fF,fF,fF,fF,fF,fF,fF,fF,fF,fF] rfl rfl (by kernel_rfl) (fun _ _ _ h=>h) (Or.inl ⟨by rfl,?_⟩) ?_ ?_
       rotate_left
       ·intro w'
        go_simp
        with_reducible rfl
       rotate_left
       ·simp only [Act.put,sI,sZ,sS,i64_w,i32_w]
        rfl
       refine pure_ (i:=3) (N:=some 58) (v:=?_) (a':=?_) #[tT,tT,tT,tT,fF,fF,fF,fF,fF,fF,fF,fF,fF,fF,fF,fF] rfl rfl (by kernel_rfl) (fun _ _ _ h=>h) (Or.inl ⟨by rfl,?_⟩) ?_ ?_
       rotate_left
       ·intro w'
        go_simp
        with_reducible rfl
       rotate_left
       ·simp only [Act.put,sI,sZ,sS,i64_w,i32_w]
        rfl
       refine pure_ (i:=6) (N:=some 61) (v:=?_) (a':=?_) #[tT,tT,tT,tT,fF,fF,tT,fF,fF,fF,fF,fF,fF,fF,fF,fF] rfl rfl (by kernel_rfl) (fun _ _ _ h=>h) (Or.inl ⟨by rfl,?_⟩) ?_ ?_
       rotate_left
       ·intro w'
        go_simp
        with_reducible rfl
       rotate_left
       ·simp only [Act.put,sI,sZ,sS,i64_w,i32_w]
        rfl
       refine pure_ (i:=7) (N:=some 62) (v:=?_) (a':=?_) #[tT,tT,tT,tT,fF,fF,tT,tT,fF,fF,fF,fF,fF,fF,fF,fF] rfl rfl (by kernel_rfl) (fun _ _ _ h=>h) (Or.inl ⟨by rfl,?_⟩) ?_ ?_
       rotate_left
       ·intro w'
        go_simp
        with_reducible rfl
       rotate_left
       ·simp only [Act.put,sI,sZ,sS,i64_w,i32_w]
        rfl
       refine pure_ (i:=8) (N:=some 63) (v:=?_) (a':=?_) #[tT,tT,tT,tT,fF,fF,tT,tT,tT,fF,fF,fF,fF,fF,fF,fF] rfl rfl (by kernel_rfl) (fun _ _ _ h=>h) (Or.inl ⟨by rfl,?_⟩) ?_ ?_
       rotate_left
       ·intro w'
        go_simp
        with_reducible rfl
       rotate_left
       ·simp only [Act.put,sI,sZ,sS,i64_w,i32_w]
        rfl
       refine take_ (i:=4) (N:=some 59) (v:=?_) (a':=?_) #[tT,tT,tT,tT,tT,fF,tT,tT,tT,fF,fF,fF,fF,fF,fF,fF] rfl rfl (by kernel_rfl) (fun _ _ _ h=>h) (Or.inl ⟨by rfl,?_⟩) hHeld ?_ ?_
       rotate_left
       ·rintro w' ⟨s0,s1⟩
        go_simp
        with_reducible rfl
       rotate_left
       ·simp only [Act.put,sI,sZ,sS,i64_w,i32_w]
        rfl
       refine pure_ (i:=5) (N:=some 60) (v:=?_) (a':=?_) #[tT,tT,tT,tT,tT,tT,tT,tT,tT,fF,fF,fF,fF,fF,fF,fF] rfl rfl (by kernel_rfl) (fun _ _ _ h=>h) (Or.inl ⟨by rfl,?_⟩) ?_ ?_
       rotate_left
       ·intro w'
        go_simp
        with_reducible rfl
       rotate_left
       ·simp only [Act.put,sI,sZ,sS,i64_w,i32_w]
        rfl
       refine take_ (i:=9) (N:=some 64) (v:=?_) (a':=?_) #[tT,tT,tT,tT,tT,tT,tT,tT,tT,tT,fF,fF,fF,fF,fF,fF] rfl rfl (by kernel_rfl) (fun _ _ _ h=>h) (Or.inl ⟨by rfl,?_⟩) hHeld ?_ ?_
       rotate_left
       ·rintro w' ⟨s0,s1⟩
        go_simp
        with_reducible rfl
       rotate_left
       ·simp only [Act.put,sI,sZ,sS,i64_w,i32_w]
        rfl
       refine one_ (i:=10) (N:=some 65) #[tT,tT,tT,tT,tT,tT,tT,tT,tT,tT,tT,fF,fF,fF,fF,fF] rfl rfl (by kernel_rfl) (by decide) (fun K hK=>?_)
       refine goes_ Try.func25 (by kernel_rfl) rfl #[.string (wd ++ p.p2),.string p.p3] (by rfl) rfl rfl (by simp only [sM,sC,sN];rfl) ?_
       with_reducible refine (CS.out _).mono ?_
       rintro e wC ⟨rfl,hb⟩
       refine ⟨_,rfl,?_⟩
       have nHP_:=aM (blk_below (HP.out) hb);have nHR_:=aM (blk_below (HR.out) hb);have nHB_:=aM (HB.out.trans (hb.mono (HB.out.size)))
       clear hb HP HR HB
       have HP:=nHP_
       have HR:=nHR_
       have HB:=nHB_
       clear nHP_ nHR_ nHB_
       refine hK.out _ _ ⟨(blk_cell HP.out 2).trans rfl,(blk_cell HP.out 3).trans rfl⟩ (fun hHeld=>?_)
       clear hK K
       refine norm_ (a':=?_) ?_ ?_
       rotate_left
       ·show Act.put _ (some 65) _ = _
        simp only [Act.put,sI,sZ,sS,i64_w,i32_w]
        rfl
       refine one_ (i:=11) (N:=some 66) #[tT,tT,tT,tT,tT,tT,tT,tT,tT,tT,tT,tT,fF,fF,fF,fF] rfl rfl (by kernel_rfl) (by decide) (fun K hK=>?_)
       refine goes_ Try.func24 (by kernel_rfl) rfl #[.agg #[.string q1,.string q2]] (by rfl) rfl rfl (by simp only [sM,sC,sN];rfl) ?_
       with_reducible refine (CH.out _).mono ?_
       rintro e wD ⟨rfl,hb⟩
       refine ⟨_,rfl,?_⟩
       have nHP_:=aM (blk_below (HP.out) hb);have nHR_:=aM (blk_below (HR.out) hb);have nHB_:=aM (HB.out.trans (hb.mono (HB.out.size)))
       clear hb HP HR HB
       have HP:=nHP_
       have HR:=nHR_
       have HB:=nHB_
       clear nHP_ nHR_ nHB_
       have K0:=(blk_cell HR.out 0).trans rfl
       have K1:=(blk_cell HR.out 1).trans rfl
       have F0:=blk_frozen HR.out 0
       have F1:=blk_frozen HR.out 1
       refine hK.out _ _ ⟨(blk_cell HP.out 2).trans rfl,(blk_cell HP.out 3).trans rfl⟩ (fun hHeld=>?_)
       clear hK K
       refine norm_ (a':=?_) ?_ ?_
       rotate_left
       ·show Act.put _ (some 66) _ = _
        simp only [Act.put,sI,sZ,sS,i64_w,i32_w]
        rfl
       refine pure_ (i:=12) (N:=some 67) (v:=?_) (a':=?_) #[tT,tT,tT,tT,tT,tT,tT,tT,tT,tT,tT,tT,tT,fF,fF,fF] rfl rfl (by kernel_rfl) (fun _ _ _ h=>h) (Or.inl ⟨by rfl,?_⟩) ?_ ?_
       rotate_left
       ·intro w'
        go_simp
        with_reducible rfl
       rotate_left
       ·simp only [Act.put,sI,sZ,sS,i64_w,i32_w]
        rfl
       refine pure_ (i:=13) (N:=some 68) (v:=?_) (a':=?_) #[tT,tT,tT,tT,tT,tT,tT,tT,tT,tT,tT,tT,tT,tT,fF,fF] rfl rfl (by kernel_rfl) (fun _ _ _ h=>h) (Or.inl ⟨by rfl,?_⟩) ?_ ?_
       rotate_left
       ·intro w'
        go_simp
        with_reducible rfl
       rotate_left
       ·simp only [Act.put,sI,sZ,sS,i64_w,i32_w]
        rfl
       refine one_ (i:=14) (N:=none) #[tT,tT,tT,tT,tT,tT,tT,tT,tT,tT,tT,tT,tT,tT,tT,fF] rfl rfl (by kernel_rfl) (by decide) (fun K hK=>?_)
       refine skip_ (w1:=?_) (by rfl) rfl ?_ ?_
       rotate_left
       ·go_simp
        rfl
       refine hK.out _ _ ⟨(blk_cell (blk_far (blk_far HP.out (by first|(simp;done)|(simp;omega)) _) (by first|(simp;done)|(simp;omega)) _) 2).trans rfl,(blk_cell (blk_far (blk_far HP.out (by first|(simp;done)|(simp;omega)) _) (by first|(simp;done)|(simp;omega)) _) 3).trans rfl⟩ (fun hHeld=>?_)
       clear hK K
       refine pure_ (i:=15) (N:=some 5) (v:=?_) (a':=?_) #[tT,tT,tT,tT,tT,tT,tT,tT,tT,tT,tT,tT,tT,tT,tT,tT] rfl rfl (by kernel_rfl) (fun _ _ _ h=>h) (Or.inl ⟨by rfl,?_⟩) ?_ ?_
       rotate_left
       ·intro w'
        go_simp
        with_reducible rfl
       rotate_left
       ·simp only [Act.put,sI,sZ,sS,i64_w,i32_w]
        rfl
       refine done_ (by kernel_rfl) ?_
       try go_wp2
       refine bodyPost_ret (results_ct rfl _ _ (w.heap.size + 1 + 1) 27 #[.string r1,.string r2] (0,0) _ rfl (by first|exact blk_put (cs:=#[.string r1,.string ⟨#[]⟩]) (blk_put (cs:=#[.string ⟨#[]⟩,.string ⟨#[]⟩]) HR.out 0 _ rfl) 1 _ rfl) Try.underlying27 rfl (by kernel_rfl)) rfl ?_
       exact ⟨rfl,zS (zS HB.out (by omega)) (by omega)⟩
      ·subst e2
       replace H:midEnd gk (wd ++ p.p4) p.p5 = some (r1,r2,r3):=H
       obtain ⟨q1,q2,h2,h3⟩:=short_parts H
       have CS:Aside0 (∀ W,Calls Try.prog 25 #[.string (wd ++ p.p4),.string p.p5] W fun e w'=>e = .returned (.agg #[.string q1,.string q2]) ∧ Below W.heap.size W w'):=⟨fun W=>(impl_sequence.calls gk _ _ q1 q2 W h2).mono fun e w' hh=>hh⟩
       have CH:Aside0 (∀ W,Calls Try.prog 24 #[.agg #[.string q1,.string q2]] W fun e w'=>e = .returned (.tuple #[.agg #[.string r1,.string r2],.int .i64 r3]) ∧ Below W.heap.size W w'):=⟨fun W=>(impl_short.calls _ _ r1 r2 r3 W h3).mono fun e w' ⟨he,hd⟩=>⟨he,by first|exact hd|exact hd.below⟩⟩
       clear H h2 h3
       have hcat:=eq_true (show wd.size + p.p4.size ≤ 9223372036854775807 by have:=pok.2.2.2.2.1;omega)
       have hcat2:=eq_false (show ¬ 9223372036854775807 < wd.size + p.p4.size by have:=pok.2.2.2.2.1;omega)
       go_wp2_with (first|(go_at_call 23;refine (CT.out _).mono ?_;rintro e wA ⟨rfl,hb⟩;have nHV_:=aM (blk_below (HV.out) hb);have nHP_:=aM (blk_below (HP.out) hb);have nHR_:=aM (blk_below (HR.out) hb);have nHO_:=aM (blk_below (HO.out) hb);have nHB_:=aM (HB.out.trans (hb.mono (HB.out.size)));have nHZ_:=aM (Nat.le_trans HZ.out (hb.size));clear hb HV HP HR HO HB HZ;have HV:=nHV_;have HP:=nHP_;have HR:=nHR_;have HO:=nHO_;have HB:=nHB_;have HZ:=nHZ_;clear nHV_ nHP_ nHR_ nHO_ nHB_ nHZ_;have G0:=(blk_cell (yA HP.out (.cells #[.string s1,.string s2] 27)) 0).trans rfl;have G1:=(blk_cell (yA HP.out (.cells #[.string s1,.string s2] 27)) 1).trans rfl;have G2:=(blk_cell (yA HP.out (.cells #[.string s1,.string s2] 27)) 2).trans rfl;have G3:=(blk_cell (yA HP.out (.cells #[.string s1,.string s2] 27)) 3).trans rfl;have G4:=(blk_cell (yA HP.out (.cells #[.string s1,.string s2] 27)) 4).trans rfl;have G5:=(blk_cell (yA HP.out (.cells #[.string s1,.string s2] 27)) 5).trans rfl)|(at_lookup;refine wpList_lookup_own_ok_int _ rfl _ _ 51 rfl 37 3 .i64 law37 u51 u3 (zero3 _) (w.heap.size + 1 + 1 + 1) seen.length D rfl (HM.out _ (yA HO.out _)) _ kl rfl hkl ?_;intro c hat hwc;rw [hhas];clear hat hwc)|(go_at_call 26;refine (CV.out _).mono ?_;rintro e wB ⟨rfl,hb⟩;have nHV_:=aM (blk_below (yA HV.out _) hb);have nHP_:=aM (blk_below (yA HP.out _) hb);have nHR_:=aM (blk_below (yA HR.out _) hb);have nHO_:=aM (blk_below (yA HO.out _) hb);have nHB_:=aM ((HB.out.alloc HB.out.size _).trans (hb.mono (by have:=HB.out.size;simp;omega)));have nHZ_:=aM (Nat.le_trans HZ.out (Nat.le_trans (by simp) hb.size));clear hb HV HP HR HO HB HZ;have HV:=nHV_;have HP:=nHP_;have HR:=nHR_;have HO:=nHO_;have HB:=nHB_;have HZ:=nHZ_;clear nHV_ nHP_ nHR_ nHO_ nHB_ nHZ_;have G0:=(blk_cell HP.out 0).trans rfl;have G1:=(blk_cell HP.out 1).trans rfl;have G2:=(blk_cell HP.out 2).trans rfl;have G3:=(blk_cell HP.out 3).trans rfl;have G4:=(blk_cell HP.out 4).trans rfl;have G5:=(blk_cell HP.out 5).trans rfl;have K0:=(blk_cell HR.out 0).trans rfl;have K1:=(blk_cell HR.out 1).trans rfl;have F0:=blk_frozen HR.out 0;have F1:=blk_frozen HR.out 1))
       have nP:=aM (yD HP.out);have nR:=aM (yD HR.out);have nB:=aM (zD HB.out)
       clear HR HB HV HP HO HM HT HZ
       have HP:=nP
       have HR:=nR
       have HB:=nB
       clear nP nR nB
       refine start_ (n:=16) (S:=fun w'=>w'.cell? ⟨w.heap.size + 1,4,none⟩ = some (.string p.p4) ∧ w'.cell? ⟨w.heap.size + 1,5,none⟩ = some (.string p.p5)) (ds:=[]) #[fF,fF,fF,fF,fF,fF,fF,fF,fF,fF,fF,fF,fF,fF,fF,fF] (by kernel_rfl) rfl rfl ⟨(blk_cell HP.out 4).trans rfl,(blk_cell HP.out 5).trans rfl⟩ (fun hHeld=>?_)
       refine pure_ (i:=0) (N:=some 55) (v:=?_) (a':=?_) #[tT,fF,fF,fF,fF,fF,fF,fF,fF,fF,fF,fF,fF,fF,fF,fF] rfl rfl (by kernel_rfl) (fun _ _ _ h=>h) (Or.inl ⟨by rfl,?_⟩) ?_ ?_
       rotate_left
       ·intro w'
        go_simp
        with_reducible rfl
       rotate_left
       ·simp only [Act.put,sI,sZ,sS,i64_w,i32_w]
        rfl
       refine pure_ (i:=1) (N:=some 56) (v:=?_) (a':=?_) #[tT,tT,fF,fF,fF,fF,fF,fF,fF,fF,fF,fF,fF,fF,fF,fF] rfl rfl (by kernel_rfl) (fun _ _ _ h=>h) (Or.inl ⟨by rfl,?_⟩) ?_ ?_
       rotate_left
       ·intro w'
        go_simp
        with_reducible rfl
       rotate_left
       ·simp only [Act.put,sI,sZ,sS,i64_w,i32_w]
        rfl
       refine pure_ (i:=2) (N:=some 57) (v:=?_) (a':=?_) #[tT,tT,tT,fF,fF,fF,fF,fF,fF,fF,fF,fF,fF,fF,fF,fF] rfl rfl (by kernel_rfl) (fun _ _ _ h=>h) (Or.inl ⟨by rfl,?_⟩) ?_ ?_
       rotate_left
       ·intro w'
        go_simp
        with_reducible rfl
       rotate_left
       ·simp only [Act.put,sI,sZ,sS,i64_w,i32_w]
        rfl
       refine pure_ (i:=3) (N:=some 58) (v:=?_) (a':=?_) #[tT,tT,tT,tT,fF,fF,fF,fF,fF,fF,fF,fF,fF,fF,fF,fF] rfl rfl (by kernel_rfl) (fun _ _ _ h=>h) (Or.inl ⟨by rfl,?_⟩) ?_ ?_
       rotate_left
       ·intro w'
        go_simp
        with_reducible rfl
       rotate_left
       ·simp only [Act.put,sI,sZ,sS,i64_w,i32_w]
        rfl
       refine pure_ (i:=6) (N:=some 61) (v:=?_) (a':=?_) #[tT,tT,tT,tT,fF,fF,tT,fF,fF,fF,fF,fF,fF,fF,fF,fF] rfl rfl (by kernel_rfl) (fun _ _ _ h=>h) (Or.inl ⟨by rfl,?_⟩) ?_ ?_
       rotate_left
       ·intro w'
        go_simp
        with_reducible rfl
       rotate_left
       ·simp only [Act.put,sI,sZ,sS,i64_w,i32_w]
        rfl
       refine pure_ (i:=7) (N:=some 62) (v:=?_) (a':=?_) #[tT,tT,tT,tT,fF,fF,tT,tT,fF,fF,fF,fF,fF,fF,fF,fF] rfl rfl (by kernel_rfl) (fun _ _ _ h=>h) (Or.inl ⟨by rfl,?_⟩) ?_ ?_
       rotate_left
       ·intro w'
        go_simp
        with_reducible rfl
       rotate_left
       ·simp only [Act.put,sI,sZ,sS,i64_w,i32_w]
        rfl
       refine pure_ (i:=8) (N:=some 63) (v:=?_) (a':=?_) #[tT,tT,tT,tT,fF,fF,tT,tT,tT,fF,fF,fF,fF,fF,fF,fF] rfl rfl (by kernel_rfl) (fun _ _ _ h=>h) (Or.inl ⟨by rfl,?_⟩) ?_ ?_
       rotate_left
       ·intro w'
        go_simp
        with_reducible rfl
       rotate_left
       ·simp only [Act.put,sI,sZ,sS,i64_w,i32_w]
        rfl
       refine take_ (i:=4) (N:=some 59) (v:=?_) (a':=?_) #[tT,tT,tT,tT,tT,fF,tT,tT,tT,fF,fF,fF,fF,fF,fF,fF] rfl rfl (by kernel_rfl) (fun _ _ _ h=>h) (Or.inl ⟨by rfl,?_⟩) hHeld ?_ ?_
       rotate_left
       ·rintro w' ⟨s0,s1⟩
        go_simp
        with_reducible rfl
       rotate_left
       ·simp only [Act.put,sI,sZ,sS,i64_w,i32_w]
        rfl
       refine pure_ (i:=5) (N:=some 60) (v:=?_) (a':=?_) #[tT,tT,tT,tT,tT,tT,tT,tT,tT,fF,fF,fF,fF,fF,fF,fF] rfl rfl (by kernel_rfl) (fun _ _ _ h=>h) (Or.inl ⟨by rfl,?_⟩) ?_ ?_
       rotate_left
       ·intro w'
        go_simp
        with_reducible rfl
       rotate_left
       ·simp only [Act.put,sI,sZ,sS,i64_w,i32_w]
        rfl
       refine take_ (i:=9) (N:=some 64) (v:=?_) (a':=?_) #[tT,tT,tT,tT,tT,tT,tT,tT,tT,tT,fF,fF,fF,fF,fF,fF] rfl rfl (by kernel_rfl) (fun _ _ _ h=>h) (Or.inl ⟨by rfl,?_⟩) hHeld ?_ ?_
       rotate_left
       ·rintro w' ⟨s0,s1⟩
        go_simp
        with_reducible rfl
       rotate_left
       ·simp only [Act.put,sI,sZ,sS,i64_w,i32_w]
        rfl
       refine one_ (i:=10) (N:=some 65) #[tT,tT,tT,tT,tT,tT,tT,tT,tT,tT,tT,fF,fF,fF,fF,fF] rfl rfl (by kernel_rfl) (by decide) (fun K hK=>?_)
       refine goes_ Try.func25 (by kernel_rfl) rfl #[.string (wd ++ p.p4),.string p.p5] (by rfl) rfl rfl (by simp only [sM,sC,sN];rfl) ?_
       with_reducible refine (CS.out _).mono ?_
       rintro e wC ⟨rfl,hb⟩
       refine ⟨_,rfl,?_⟩
       have nHP_:=aM (blk_below (HP.out) hb);have nHR_:=aM (blk_below (HR.out) hb);have nHB_:=aM (HB.out.trans (hb.mono (HB.out.size)))
       clear hb HP HR HB
       have HP:=nHP_
       have HR:=nHR_
       have HB:=nHB_
       clear nHP_ nHR_ nHB_
       refine hK.out _ _ ⟨(blk_cell HP.out 4).trans rfl,(blk_cell HP.out 5).trans rfl⟩ (fun hHeld=>?_)
       clear hK K
       refine norm_ (a':=?_) ?_ ?_
       rotate_left
       ·show Act.put _ (some 65) _ = _
        simp only [Act.put,sI,sZ,sS,i64_w,i32_w]
        rfl
       refine one_ (i:=11) (N:=some 66) #[tT,tT,tT,tT,tT,tT,tT,tT,tT,tT,tT,tT,fF,fF,fF,fF] rfl rfl (by kernel_rfl) (by decide) (fun K hK=>?_)
       refine goes_ Try.func24 (by kernel_rfl) rfl #[.agg #[.string q1,.string q2]] (by rfl) rfl rfl (by simp only [sM,sC,sN];rfl) ?_
       with_reducible refine (CH.out _).mono ?_
       rintro e wD ⟨rfl,hb⟩
       refine ⟨_,rfl,?_⟩
       have nHP_:=aM (blk_below (HP.out) hb);have nHR_:=aM (blk_below (HR.out) hb);have nHB_:=aM (HB.out.trans (hb.mono (HB.out.size)))
       clear hb HP HR HB
       have HP:=nHP_
       have HR:=nHR_
       have HB:=nHB_
       clear nHP_ nHR_ nHB_
       have K0:=(blk_cell HR.out 0).trans rfl
       have K1:=(blk_cell HR.out 1).trans rfl
       have F0:=blk_frozen HR.out 0
       have F1:=blk_frozen HR.out 1
       refine hK.out _ _ ⟨(blk_cell HP.out 4).trans rfl,(blk_cell HP.out 5).trans rfl⟩ (fun hHeld=>?_)
       clear hK K
       refine norm_ (a':=?_) ?_ ?_
       rotate_left
       ·show Act.put _ (some 66) _ = _
        simp only [Act.put,sI,sZ,sS,i64_w,i32_w]
        rfl
       refine pure_ (i:=12) (N:=some 67) (v:=?_) (a':=?_) #[tT,tT,tT,tT,tT,tT,tT,tT,tT,tT,tT,tT,tT,fF,fF,fF] rfl rfl (by kernel_rfl) (fun _ _ _ h=>h) (Or.inl ⟨by rfl,?_⟩) ?_ ?_
       rotate_left
       ·intro w'
        go_simp
        with_reducible rfl
       rotate_left
       ·simp only [Act.put,sI,sZ,sS,i64_w,i32_w]
        rfl
       refine pure_ (i:=13) (N:=some 68) (v:=?_) (a':=?_) #[tT,tT,tT,tT,tT,tT,tT,tT,tT,tT,tT,tT,tT,tT,fF,fF] rfl rfl (by kernel_rfl) (fun _ _ _ h=>h) (Or.inl ⟨by rfl,?_⟩) ?_ ?_
       rotate_left
       ·intro w'
        go_simp
        with_reducible rfl
       rotate_left
       ·simp only [Act.put,sI,sZ,sS,i64_w,i32_w]
        rfl
       refine one_ (i:=14) (N:=none) #[tT,tT,tT,tT,tT,tT,tT,tT,tT,tT,tT,tT,tT,tT,tT,fF] rfl rfl (by kernel_rfl) (by decide) (fun K hK=>?_)
       refine skip_ (w1:=?_) (by rfl) rfl ?_ ?_
       rotate_left
       ·go_simp
        rfl
       refine hK.out _ _ ⟨(blk_cell (blk_far (blk_far HP.out (by first|(simp;done)|(simp;omega)) _) (by first|(simp;done)|(simp;omega)) _) 4).trans rfl,(blk_cell (blk_far (blk_far HP.out (by first|(simp;done)|(simp;omega)) _) (by first|(simp;done)|(simp;omega)) _) 5).trans rfl⟩ (fun hHeld=>?_)
       clear hK K
       refine pure_ (i:=15) (N:=some 5) (v:=?_) (a':=?_) #[tT,tT,tT,tT,tT,tT,tT,tT,tT,tT,tT,tT,tT,tT,tT,tT] rfl rfl (by kernel_rfl) (fun _ _ _ h=>h) (Or.inl ⟨by rfl,?_⟩) ?_ ?_
       rotate_left
       ·intro w'
        go_simp
        with_reducible rfl
       rotate_left
       ·simp only [Act.put,sI,sZ,sS,i64_w,i32_w]
        rfl
       refine done_ (by kernel_rfl) ?_
       try go_wp2
       refine bodyPost_ret (results_ct rfl _ _ (w.heap.size + 1 + 1) 27 #[.string r1,.string r2] (0,0) _ rfl (by first|exact blk_put (cs:=#[.string r1,.string ⟨#[]⟩]) (blk_put (cs:=#[.string ⟨#[]⟩,.string ⟨#[]⟩]) HR.out 0 _ rfl) 1 _ rfl) Try.underlying27 rfl (by kernel_rfl)) rfl ?_
       exact ⟨rfl,zS (zS HB.out (by omega)) (by omega)⟩
     ·rw [if_neg hst] at H
      have hs1:=eq_false hst
      have hs2:decide (0 ≤ st) = false:=decide_eq_false hst
      by_cases hL:wd.size = 600
      ·rw [if_pos hL] at H
       simp only [Option.some.injEq,Prod.mk.injEq] at H
       obtain ⟨rfl,rfl,rfl⟩:=H
       have hl1:((wd.size:Int) == 600) = true:=beq_iff_eq.mpr (by omega)
       go_wp2_with (first|(go_at_call 23;refine (CT.out _).mono ?_;rintro e wA ⟨rfl,hb⟩;have nHV_:=aM (blk_below (HV.out) hb);have nHP_:=aM (blk_below (HP.out) hb);have nHR_:=aM (blk_below (HR.out) hb);have nHO_:=aM (blk_below (HO.out) hb);have nHB_:=aM (HB.out.trans (hb.mono (HB.out.size)));have nHZ_:=aM (Nat.le_trans HZ.out (hb.size));clear hb HV HP HR HO HB HZ;have HV:=nHV_;have HP:=nHP_;have HR:=nHR_;have HO:=nHO_;have HB:=nHB_;have HZ:=nHZ_;clear nHV_ nHP_ nHR_ nHO_ nHB_ nHZ_;have G0:=(blk_cell (yA HP.out (.cells #[.string s1,.string s2] 27)) 0).trans rfl;have G1:=(blk_cell (yA HP.out (.cells #[.string s1,.string s2] 27)) 1).trans rfl;have G2:=(blk_cell (yA HP.out (.cells #[.string s1,.string s2] 27)) 2).trans rfl;have G3:=(blk_cell (yA HP.out (.cells #[.string s1,.string s2] 27)) 3).trans rfl;have G4:=(blk_cell (yA HP.out (.cells #[.string s1,.string s2] 27)) 4).trans rfl;have G5:=(blk_cell (yA HP.out (.cells #[.string s1,.string s2] 27)) 5).trans rfl)|(at_lookup;refine wpList_lookup_own_ok_int _ rfl _ _ 51 rfl 37 3 .i64 law37 u51 u3 (zero3 _) (w.heap.size + 1 + 1 + 1) seen.length D rfl (HM.out _ (yA HO.out _)) _ kl rfl hkl ?_;intro c hat hwc;rw [hhas];clear hat hwc)|(go_at_call 26;refine (CV.out _).mono ?_;rintro e wB ⟨rfl,hb⟩;have nHV_:=aM (blk_below (yA HV.out _) hb);have nHP_:=aM (blk_below (yA HP.out _) hb);have nHR_:=aM (blk_below (yA HR.out _) hb);have nHO_:=aM (blk_below (yA HO.out _) hb);have nHB_:=aM ((HB.out.alloc HB.out.size _).trans (hb.mono (by have:=HB.out.size;simp;omega)));have nHZ_:=aM (Nat.le_trans HZ.out (Nat.le_trans (by simp) hb.size));clear hb HV HP HR HO HB HZ;have HV:=nHV_;have HP:=nHP_;have HR:=nHR_;have HO:=nHO_;have HB:=nHB_;have HZ:=nHZ_;clear nHV_ nHP_ nHR_ nHO_ nHB_ nHZ_;have G0:=(blk_cell HP.out 0).trans rfl;have G1:=(blk_cell HP.out 1).trans rfl;have G2:=(blk_cell HP.out 2).trans rfl;have G3:=(blk_cell HP.out 3).trans rfl;have G4:=(blk_cell HP.out 4).trans rfl;have G5:=(blk_cell HP.out 5).trans rfl;have K0:=(blk_cell HR.out 0).trans rfl;have K1:=(blk_cell HR.out 1).trans rfl;have F0:=blk_frozen HR.out 0;have F1:=blk_frozen HR.out 1))
       refine bodyPost_ret (results_ct rfl _ _ (w.heap.size + 1 + 1) 27 #[.string ⟨#[]⟩,.string ⟨#[]⟩] (0,0) _ rfl (by first|exact blk_put (cs:=#[.string ⟨#[]⟩,.string ⟨#[]⟩]) (blk_put (cs:=#[.string ⟨#[]⟩,.string ⟨#[]⟩]) HR.out 0 _ rfl) 1 _ rfl) Try.underlying27 rfl (by kernel_rfl)) rfl ?_
       exact ⟨rfl,zS (zS HB.out (by omega)) (by omega)⟩
      ·rw [if_neg hL] at H
       by_cases hlt:lt = 48 ∨ lt = 49
       case neg=>rw [if_neg hlt] at H;cases H
       rw [if_pos hlt] at H
       obtain ⟨⟨y0,y1,y2,y3,y4,y5⟩,h5,H⟩:=Option.bind_eq_some_iff.1 H
       have HN:=aM (show impl_Sequence_middle.l a0_0 a0_1 gk ⟨y0,y1,y2,y3,y4,y5⟩ (wd ++ Utf8.encode lt) (seen ++ [p]) = some (r1,r2,r3) from H)
       clear H
       have CM:Aside0 (∀ W,Calls Try.prog 27 #[.agg #[.string a0_0,.string a0_1],.agg #[.string p.p0,.string p.p1,.string p.p2,.string p.p3,.string p.p4,.string p.p5],.int .u8 lt] W fun e w'=>e = .returned (.agg #[.string y0,.string y1,.string y2,.string y3,.string y4,.string y5]) ∧ Below W.heap.size W w'):=⟨fun W=>impl_Sequence_moved.calls _ _ _ _ _ _ _ _ _ _ _ _ _ _ _ W h5⟩
       clear h5
       have hl1:((wd.size:Int) == 600) = false:=beq_eq_false_iff_ne.mpr (by omega)
       have hue:(Utf8.encode lt).size = 1:=by rcases hlt with rfl|rfl <;> rfl
       have hcat:=eq_true (show wd.size + (Utf8.encode lt).size ≤ 9223372036854775807 by omega)
       have hcat2:=eq_false (show ¬ 9223372036854775807 < wd.size + (Utf8.encode lt).size by omega)
       have hwf:(Lit.int .i64 (wd.size:Int)).wf = true:=WalkArith.wf_i64 (by omega)
       go_wp2_with (first|(go_at_call 23;refine (CT.out _).mono ?_;rintro e wA ⟨rfl,hb⟩;have nHV_:=aM (blk_below (HV.out) hb);have nHP_:=aM (blk_below (HP.out) hb);have nHR_:=aM (blk_below (HR.out) hb);have nHO_:=aM (blk_below (HO.out) hb);have nHB_:=aM (HB.out.trans (hb.mono (HB.out.size)));have nHZ_:=aM (Nat.le_trans HZ.out (hb.size));clear hb HV HP HR HO HB HZ;have HV:=nHV_;have HP:=nHP_;have HR:=nHR_;have HO:=nHO_;have HB:=nHB_;have HZ:=nHZ_;clear nHV_ nHP_ nHR_ nHO_ nHB_ nHZ_;have G0:=(blk_cell (yA HP.out (.cells #[.string s1,.string s2] 27)) 0).trans rfl;have G1:=(blk_cell (yA HP.out (.cells #[.string s1,.string s2] 27)) 1).trans rfl;have G2:=(blk_cell (yA HP.out (.cells #[.string s1,.string s2] 27)) 2).trans rfl;have G3:=(blk_cell (yA HP.out (.cells #[.string s1,.string s2] 27)) 3).trans rfl;have G4:=(blk_cell (yA HP.out (.cells #[.string s1,.string s2] 27)) 4).trans rfl;have G5:=(blk_cell (yA HP.out (.cells #[.string s1,.string s2] 27)) 5).trans rfl)|(at_lookup;refine wpList_lookup_own_ok_int _ rfl _ _ 51 rfl 37 3 .i64 law37 u51 u3 (zero3 _) (w.heap.size + 1 + 1 + 1) seen.length D rfl (HM.out _ (yA HO.out _)) _ kl rfl hkl ?_;intro c hat hwc;rw [hhas];clear hat hwc)|(go_at_call 26;refine (CV.out _).mono ?_;rintro e wB ⟨rfl,hb⟩;have nHV_:=aM (blk_below (yA HV.out _) hb);have nHP_:=aM (blk_below (yA HP.out _) hb);have nHR_:=aM (blk_below (yA HR.out _) hb);have nHO_:=aM (blk_below (yA HO.out _) hb);have nHB_:=aM ((HB.out.alloc HB.out.size _).trans (hb.mono (by have:=HB.out.size;simp;omega)));have nHZ_:=aM (Nat.le_trans HZ.out (Nat.le_trans (by simp) hb.size));clear hb HV HP HR HO HB HZ;have HV:=nHV_;have HP:=nHP_;have HR:=nHR_;have HO:=nHO_;have HB:=nHB_;have HZ:=nHZ_;clear nHV_ nHP_ nHR_ nHO_ nHB_ nHZ_;have G0:=(blk_cell HP.out 0).trans rfl;have G1:=(blk_cell HP.out 1).trans rfl;have G2:=(blk_cell HP.out 2).trans rfl;have G3:=(blk_cell HP.out 3).trans rfl;have G4:=(blk_cell HP.out 4).trans rfl;have G5:=(blk_cell HP.out 5).trans rfl;have K0:=(blk_cell HR.out 0).trans rfl;have K1:=(blk_cell HR.out 1).trans rfl;have F0:=blk_frozen HR.out 0;have F1:=blk_frozen HR.out 1)|(at_mapUpdate;refine wpList_mapUpdate_own _ rfl _ _ _ 51 rfl 37 3 law37 u51 _ (w.heap.size + 1 + 1 + 1) seen.length D rfl (HM.out _ HO.out) (by unfold maxLen;omega) _ _ kl rfl rfl hkl _ [] (plainElem_int u3 hwf) ?_;intro wD hown hgr;obtain ⟨o2,ho1,ho2⟩:=ownsMap_at hown;have HO2:=aM ho2;have nV:=aM (blk_grown HV.out hgr (by first|(simp;done)|(simp;omega)));have nP:=aM (blk_grown HP.out hgr (by first|(simp;done)|(simp;omega)));have nR:=aM (blk_grown HR.out hgr (by first|(simp;done)|(simp;omega)));have nO:=aM ho1;have nB:=aM (HB.out.grown hgr HB.out.size (by intro k hk;cases hk;omega));have nZ:=aM (Nat.le_trans HZ.out hgr.size);clear HV HP HR HO HB HZ hown hgr ho1 ho2;have HV:=nV;have HP:=nP;have HR:=nR;have HO:=nO;have HB:=nB;have HZ:=nZ;clear nV nP nR nO nB nZ;have G0:=(blk_cell HP.out 0).trans rfl;have G1:=(blk_cell HP.out 1).trans rfl;have G2:=(blk_cell HP.out 2).trans rfl;have G3:=(blk_cell HP.out 3).trans rfl;have G4:=(blk_cell HP.out 4).trans rfl;have G5:=(blk_cell HP.out 5).trans rfl;have A0:=(blk_cell HV.out 0).trans rfl;have A1:=(blk_cell HV.out 1).trans rfl)|(go_at_call 27;refine (CM.out _).mono ?_;rintro e wE ⟨rfl,hb⟩;have nHV_:=aM (blk_below (HV.out) hb);have nHP_:=aM (blk_below (HP.out) hb);have nHR_:=aM (blk_below (HR.out) hb);have nHO_:=aM (blk_below (HO.out) hb);have nHB_:=aM (HB.out.trans (hb.mono (HB.out.size)));have nHZ_:=aM (Nat.le_trans HZ.out (hb.size));clear hb HV HP HR HO HB HZ;have HV:=nHV_;have HP:=nHP_;have HR:=nHR_;have HO:=nHO_;have HB:=nHB_;have HZ:=nHZ_;clear nHV_ nHP_ nHR_ nHO_ nHB_ nHZ_;have G0:=(blk_cell HP.out 0).trans rfl;have G1:=(blk_cell HP.out 1).trans rfl;have G2:=(blk_cell HP.out 2).trans rfl;have G3:=(blk_cell HP.out 3).trans rfl;have G4:=(blk_cell HP.out 4).trans rfl;have G5:=(blk_cell HP.out 5).trans rfl;have E0:=blk_frozen HP.out 0;have E1:=blk_frozen HP.out 1;have E2:=blk_frozen HP.out 2;have E3:=blk_frozen HP.out 3;have E4:=blk_frozen HP.out 4;have E5:=blk_frozen HP.out 5))
       go_roundg gk
       case measure=>omega
       case rel =>
        exact ⟨⟨y0,y1,y2,y3,y4,y5⟩,wd ++ Utf8.encode lt,seen ++ [p],D.put kl (.lit (.int .i64 (wd.size:Int))),_,rfl,HN,⟨obj_far (obj_far (obj_far (obj_far (obj_far (obj_far HV.out (by first|(simp;done)|(simp;omega)) _) (by first|(simp;done)|(simp;omega)) _) (by first|(simp;done)|(simp;omega)) _) (by first|(simp;done)|(simp;omega)) _) (by first|(simp;done)|(simp;omega)) _) (by first|(simp;done)|(simp;omega)) _⟩,⟨blk_put (cs:=#[.string y0,.string y1,.string y2,.string y3,.string y4,.string p.p5]) (blk_put (cs:=#[.string y0,.string y1,.string y2,.string y3,.string p.p4,.string p.p5]) (blk_put (cs:=#[.string y0,.string y1,.string y2,.string p.p3,.string p.p4,.string p.p5]) (blk_put (cs:=#[.string y0,.string y1,.string p.p2,.string p.p3,.string p.p4,.string p.p5]) (blk_put (cs:=#[.string y0,.string p.p1,.string p.p2,.string p.p3,.string p.p4,.string p.p5]) (blk_put (cs:=#[.string p.p0,.string p.p1,.string p.p2,.string p.p3,.string p.p4,.string p.p5]) (HP.out) 0 _ rfl) 1 _ rfl) 2 _ rfl) 3 _ rfl) 4 _ rfl) 5 _ rfl⟩,⟨obj_far (obj_far (obj_far (obj_far (obj_far (obj_far HR.out (by first|(simp;done)|(simp;omega)) _) (by first|(simp;done)|(simp;omega)) _) (by first|(simp;done)|(simp;omega)) _) (by first|(simp;done)|(simp;omega)) _) (by first|(simp;done)|(simp;omega)) _) (by first|(simp;done)|(simp;omega)) _⟩,⟨obj_far (obj_far (obj_far (obj_far (obj_far (obj_far HO.out (by first|(simp;done)|(simp;omega)) _) (by first|(simp;done)|(simp;omega)) _) (by first|(simp;done)|(simp;omega)) _) (by first|(simp;done)|(simp;omega)) _) (by first|(simp;done)|(simp;omega)) _) (by first|(simp;done)|(simp;omega)) _⟩,⟨fun W hW=>by rw [List.length_append];exact HO2.out W _ hW⟩,⟨HT.out.1.put _ _,hsl ▸ (HT.out.2.snoc HT.out.1 hkl hi)⟩,⟨zS (zS (zS (zS (zS (zS (HB.out) (by omega)) (by omega)) (by omega)) (by omega)) (by omega)) (by omega)⟩,⟨by have:=HZ.out;simpa [World.setCell] using this⟩⟩
end
end Go.Proofs.Ytbiehbmojbmnoaa.Q
end
