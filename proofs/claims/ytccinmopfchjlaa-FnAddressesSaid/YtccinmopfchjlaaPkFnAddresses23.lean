/- Joined texts: Qx13, Qx14, Qx15p -/
import Derived.Test.YtccinmopfchjlaaPkFnAddresses22
section
namespace Go.Proofs.Ytccinmopfchjlaa.Q
open Go.Proofs.YtccinmopfchjlaaW.Ext
open Go.RowKit Go.Proofs.YtccinmopfchjlaaW.PrintWords Go.Proofs.YtccinmopfchjlaaW.PrintLast Go.Proofs.YtccinmopfchjlaaW.PrintMore
attribute [local go_sem] max2_int min2_int max_two min_two max_three min_three max_four min_four   -- for this text's walks alone
set_option linter.unusedVariables false
set_option linter.unusedSimpArgs false
attribute [local go_sem high] eqA59
def spec_l02Letter.f (k:Nat) (a0_0:Int) (a0_1:Int) (a1_0:Int) (a1_1:Int):Option (Int):=(spec_l01Double.f k a0_0 a0_1).bind fun bt183=>(if (bt183.1 == a1_0 && (bt183.2 == a1_1)) = true then (some 42) else (if (wrap64 ((wrap64 (2 * a1_1)) * a0_0)) > (wrap64 (a1_0 * a0_1)) then (if (wrap64 ((wrap64 (2 * a1_1)) * a0_0)) < (wrap64 ((wrap64 (a1_0 + a1_1)) * a0_1)) then (some 49) else (some 48)) else (some 48)))
theorem spec_l02Letter.mono:∀ a0 a1 a2 a3 k,LeO (spec_l02Letter.f k a0 a1 a2 a3) (spec_l02Letter.f (k + 1) a0 a1 a2 a3):=by
 intro a0 a1 a2 a3 k
 unfold spec_l02Letter.f
 repeat' first
   | (with_reducible exact spec_l01Double.mono _ _ _)
   | (with_reducible exact LeO.refl _)
   | (with_reducible exact LeO.none _)
   | (with_reducible refine LeO.ite ?_ ?_)
   | (with_reducible refine LeO.bind ?_ (fun _=>?_))
   | exact spec_l01Double.mono _ _ _
   | exact LeO.none _
   | refine LeO.ite ?_ ?_
   | refine LeO.bind ?_ (fun _=>?_)
set_option maxHeartbeats 8000000 in
set_option maxRecDepth 100000 in
theorem spec_l02Letter.calls (k:Nat) (a0_0:Int) (a0_1:Int) (a1_0:Int) (a1_1:Int) (r:Int) (w:World) (h:spec_l02Letter.f k a0_0 a0_1 a1_0 a1_1 = some r) :
  Calls Try.prog 46 #[.agg #[.int .i64 a0_0,.int .i64 a0_1],.agg #[.int .i64 a1_0,.int .i64 a1_1]] w fun e w'=>e = .returned (.int .u8 r) ∧ Below w.heap.size w w':=by
 have hu59:=Try.underlying59
 have HB:=aM (Below.refl w.heap.size w)
 have H:((spec_l01Double.f k a0_0 a0_1).bind fun bt183=>(if (bt183.1 == a1_0 && (bt183.2 == a1_1)) = true then (some 42) else (if (wrap64 ((wrap64 (2 * a1_1)) * a0_0)) > (wrap64 (a1_0 * a0_1)) then (if (wrap64 ((wrap64 (2 * a1_1)) * a0_0)) < (wrap64 ((wrap64 (a1_0 + a1_1)) * a0_1)) then (some 49) else (some 48)) else (some 48)))) = some r:=h
 clear h
 replace H:=Option.bind_eq_some_iff.mp H
 obtain ⟨⟨t183,t184⟩,A30,H⟩:=H
 replace H:(if (t183 == a1_0 && (t184 == a1_1)) = true then (some 42) else (if (wrap64 ((wrap64 (2 * a1_1)) * a0_0)) > (wrap64 (a1_0 * a0_1)) then (if (wrap64 ((wrap64 (2 * a1_1)) * a0_0)) < (wrap64 ((wrap64 (a1_0 + a1_1)) * a0_1)) then (some 49) else (some 48)) else (some 48))) = some r:=H
 have A3:=aM A30
 clear A30
 by_cases c4:(t183 == a1_0 && (t184 == a1_1)) = true
 ·rw [if_pos c4] at H
  have c4b0:(t183 == a1_0 && (t184 == a1_1)) = true:=c4
  (try (have c4b1:decide (t183 = a1_0 && (t184 == a1_1)) = true:=by simpa using c4))
  (try (have c4b2:(t183 == a1_0 && (t184 == a1_1)) = true:=by simpa using c4))
  clear c4
  obtain rfl:=Option.some.inj H
  go_enter Try.func46,Try.ntmps46
  try go_wp2_with (first|((with_reducible refine gate_dst (N:=2) rfl ?_);refine box_event ?hg (N:=2) ?hd (cs:=#[.int .i64 a0_0,.int .i64 a0_1]) (t:=59) ?hr ?_;(case hd=>rfl);(case hg=>rfl);(case hr=>first|(go_simp;done)|(go_simp;rfl));intro gb181 hg w5 hbox hb;have n0_:=aM (below_step HB.out hb);have n1_:=aM (hbox);have n2_:=aM ((by rw [hg];exact (below_size HB.out):w.heap.size ≤ gb181));have n3_:=aM ((by rw [hg];exact (below_size HB.out):w.heap.size ≤ gb181));clear HB;have HB:=n0_;have BK181:=n1_;have GW181:=n2_;have GE181:=n3_;clear n0_ n1_ n2_ n3_;clear hb hbox hg)|((with_reducible refine gate_dst (N:=3) rfl ?_);refine box_event ?hg (N:=3) ?hd (cs:=#[.int .i64 a1_0,.int .i64 a1_1]) (t:=59) ?hr ?_;(case hd=>rfl);(case hg=>rfl);(case hr=>first|(go_simp;done)|(go_simp;rfl));intro gb182 hg w6 hbox hb;have n0_:=aM (blk_below (g:=gb181) (o:=.cells #[.int .i64 a0_0,.int .i64 a0_1] 59 (0,0)) BK181.out hb);have n1_:=aM (below_step HB.out hb);have n2_:=aM (hbox);have n3_:=aM ((by rw [hg];exact (below_size HB.out):w.heap.size ≤ gb182));have n4_:=aM ((by rw [hg];exact (below_size HB.out):w.heap.size ≤ gb182));have n5_:=aM ((by rw [hg];exact Nat.ne_of_lt (blk_lt (g:=gb181) (o:=.cells #[.int .i64 a0_0,.int .i64 a0_1] 59 (0,0)) BK181.out):gb181 ≠ gb182));have n6_:=aM ((by rw [hg];exact Nat.ne_of_gt (blk_lt (g:=gb181) (o:=.cells #[.int .i64 a0_0,.int .i64 a0_1] 59 (0,0)) BK181.out):gb182 ≠ gb181));clear BK181;clear HB;have BK181:=n0_;have HB:=n1_;have BK182:=n2_;have GW182:=n3_;have GE182:=n4_;have NB181_182:=n5_;have NB182_181:=n6_;clear n0_ n1_ n2_ n3_ n4_ n5_ n6_;clear hb hbox hg;have hnb7:=NB182_181.out;have hnc7:=NB181_182.out;have hcz8_0:w6.cell? ⟨gb182,0,none⟩ = some (.int .i64 a1_0):=(blk_cell BK182.out 0).trans rfl;have hcz8_1:w6.cell? ⟨gb182,1,none⟩ = some (.int .i64 a1_1):=(blk_cell BK182.out 1).trans rfl;have hfz8_0:=blk_frozen BK182.out 0;have hfz8_1:=blk_frozen BK182.out 1;have hcz9_0:w6.cell? ⟨gb181,0,none⟩ = some (.int .i64 a0_0):=(blk_cell BK181.out 0).trans rfl;have hcz9_1:w6.cell? ⟨gb181,1,none⟩ = some (.int .i64 a0_1):=(blk_cell BK181.out 1).trans rfl;have hfz9_0:=blk_frozen BK181.out 0;have hfz9_1:=blk_frozen BK181.out 1))
  replace BK181:=aM (yD BK181.out)
  replace BK182:=aM (yD BK182.out)
  replace HB:=aM (zD HB.out)
  refine start_ (n:=5) (S:=fun w'=>w'.cell? ⟨gb181,0,none⟩ = some (.int .i64 a0_0) ∧ w'.cell? ⟨gb181,1,none⟩ = some (.int .i64 a0_1) ∧ w'.cell? ⟨gb182,0,none⟩ = some (.int .i64 a1_0) ∧ w'.cell? ⟨gb182,1,none⟩ = some (.int .i64 a1_1)) (ds:=[]) #[fF,fF,fF,fF,fF] (by kernel_rfl) rfl rfl ⟨(blk_cell BK181.out 0).trans rfl,(blk_cell BK181.out 1).trans rfl,(blk_cell BK182.out 0).trans rfl,(blk_cell BK182.out 1).trans rfl⟩ (fun hHeld=>?_)
  generalize w6.drew = w10 at BK181 BK182 HB hHeld ⊢
  refine take_ (i:=0) (N:=some 13) (v:=?_) (a':=?_) #[tT,fF,fF,fF,fF] rfl rfl (by kernel_rfl) (fun _ _ _ h=>h) (Or.inl ⟨by rfl,?_⟩) hHeld ?_ ?_
  rotate_left
  ·rintro w' ⟨s0,s1,s2,s3⟩
   go_simp
   with_reducible rfl
  rotate_left
  ·simp only [Act.put,sI,sZ,sS,i64_w,i32_w]
   rfl
  refine take_ (i:=2) (N:=some 15) (v:=?_) (a':=?_) #[tT,fF,tT,fF,fF] rfl rfl (by kernel_rfl) (fun _ _ _ h=>h) (Or.inl ⟨by rfl,?_⟩) hHeld ?_ ?_
  rotate_left
  ·rintro w' ⟨s0,s1,s2,s3⟩
   go_simp
   with_reducible rfl
  rotate_left
  ·simp only [Act.put,sI,sZ,sS,i64_w,i32_w]
   rfl
  refine one_ (i:=1) (N:=some 14) #[tT,tT,tT,fF,fF] rfl rfl (by kernel_rfl) (by decide) (fun K hK=>?_)
  refine goes_ Try.func60 (by kernel_rfl) rfl #[.agg #[.int .i64 a0_0,.int .i64 a0_1]] (by rfl) rfl rfl (by (try simp only [sM,sC,sN]);first|done|rfl|(simp only [List.length_drop,List.length_take];rfl)) ?_
  with_reducible refine (spec_l01Double.calls k a0_0 a0_1 t183 t184 _ A3.out).mono ?_
  rintro e w11 ⟨rfl,hb⟩
  refine ⟨_,rfl,?_⟩
  replace BK181:=aM (blk_below (g:=gb181) (o:=.cells #[.int .i64 a0_0,.int .i64 a0_1] 59 (0,0)) BK181.out hb)
  replace BK182:=aM (blk_below (g:=gb182) (o:=.cells #[.int .i64 a1_0,.int .i64 a1_1] 59 (0,0)) BK182.out hb)
  replace HB:=aM (below_step HB.out hb)
  (try clear hb)
  refine hK.out _ _ ⟨(blk_cell BK181.out 0).trans rfl,(blk_cell BK181.out 1).trans rfl,(blk_cell BK182.out 0).trans rfl,(blk_cell BK182.out 1).trans rfl⟩ (fun hHeld=>?_)
  clear hK K
  refine norm_ (a':=?_) ?_ ?_
  rotate_left
  ·show Act.put _ (some 14) _ = _
   simp only [Act.put,sI,sZ,sS,i64_w,i32_w]
   rfl
  refine pure_ (i:=3) (N:=some 16) (v:=?_) (a':=?_) #[tT,tT,tT,tT,fF] rfl rfl (by kernel_rfl) (fun _ _ _ h=>h) (Or.inl ⟨by rfl,?_⟩) ?_ ?_
  rotate_left
  ·intro w'
   go_simp
   with_reducible rfl
  rotate_left
  ·simp only [Act.put,sI,sZ,sS,i64_w,i32_w]
   rfl
  refine pure_ (i:=4) (N:=some 12) (v:=?_) (a':=?_) #[tT,tT,tT,tT,tT] rfl rfl (by kernel_rfl) (fun _ _ _ h=>h) (Or.inl ⟨by rfl,?_⟩) ?_ ?_
  rotate_left
  ·intro w'
   go_simp
   with_reducible rfl
  rotate_left
  ·simp only [Act.put,sI,sZ,sS,i64_w,i32_w]
   rfl
  refine done_ (by kernel_rfl) ?_
  try go_wp2
  go_ret
  exact ⟨by first|rfl|(simp [errW_none,errW_some] <;> rfl)|(simp [*,errW_none,errW_some] <;> rfl),HB.out⟩
 ·rw [if_neg c4] at H
  have c4b0:(t183 == a1_0 && (t184 == a1_1)) = false:=by simpa using c4
  (try (have c4b1:decide (t183 = a1_0 && (t184 == a1_1)) = false:=by simpa using c4))
  (try (have c4b2:(t183 == a1_0 && (t184 == a1_1)) = false:=by simpa using c4))
  (try (have c4b3:¬ (t183 = a1_0 && (t184 == a1_1)):=by simpa using c4))
  clear c4
  by_cases c12:(wrap64 ((wrap64 (2 * a1_1)) * a0_0)) > (wrap64 (a1_0 * a0_1))
  ·rw [if_pos c12] at H
   have c12b0:decide ((wrap64 (a1_0 * a0_1)) < (wrap64 ((wrap64 (2 * a1_1)) * a0_0))) = true:=decide_eq_true c12
   clear c12
   by_cases c13:(wrap64 ((wrap64 (2 * a1_1)) * a0_0)) < (wrap64 ((wrap64 (a1_0 + a1_1)) * a0_1))
   ·rw [if_pos c13] at H
    have c13b0:decide ((wrap64 ((wrap64 (2 * a1_1)) * a0_0)) < (wrap64 ((wrap64 (a1_0 + a1_1)) * a0_1))) = true:=decide_eq_true c13
    clear c13
    obtain rfl:=Option.some.inj H
    go_enter Try.func46,Try.ntmps46
    try go_wp2_with (first|((with_reducible refine gate_dst (N:=2) rfl ?_);refine box_event ?hg (N:=2) ?hd (cs:=#[.int .i64 a0_0,.int .i64 a0_1]) (t:=59) ?hr ?_;(case hd=>rfl);(case hg=>rfl);(case hr=>first|(go_simp;done)|(go_simp;rfl));intro gb181 hg w14 hbox hb;have n0_:=aM (below_step HB.out hb);have n1_:=aM (hbox);have n2_:=aM ((by rw [hg];exact (below_size HB.out):w.heap.size ≤ gb181));have n3_:=aM ((by rw [hg];exact (below_size HB.out):w.heap.size ≤ gb181));clear HB;have HB:=n0_;have BK181:=n1_;have GW181:=n2_;have GE181:=n3_;clear n0_ n1_ n2_ n3_;clear hb hbox hg)|((with_reducible refine gate_dst (N:=3) rfl ?_);refine box_event ?hg (N:=3) ?hd (cs:=#[.int .i64 a1_0,.int .i64 a1_1]) (t:=59) ?hr ?_;(case hd=>rfl);(case hg=>rfl);(case hr=>first|(go_simp;done)|(go_simp;rfl));intro gb182 hg w15 hbox hb;have n0_:=aM (blk_below (g:=gb181) (o:=.cells #[.int .i64 a0_0,.int .i64 a0_1] 59 (0,0)) BK181.out hb);have n1_:=aM (below_step HB.out hb);have n2_:=aM (hbox);have n3_:=aM ((by rw [hg];exact (below_size HB.out):w.heap.size ≤ gb182));have n4_:=aM ((by rw [hg];exact (below_size HB.out):w.heap.size ≤ gb182));have n5_:=aM ((by rw [hg];exact Nat.ne_of_lt (blk_lt (g:=gb181) (o:=.cells #[.int .i64 a0_0,.int .i64 a0_1] 59 (0,0)) BK181.out):gb181 ≠ gb182));have n6_:=aM ((by rw [hg];exact Nat.ne_of_gt (blk_lt (g:=gb181) (o:=.cells #[.int .i64 a0_0,.int .i64 a0_1] 59 (0,0)) BK181.out):gb182 ≠ gb181));clear BK181;clear HB;have BK181:=n0_;have HB:=n1_;have BK182:=n2_;have GW182:=n3_;have GE182:=n4_;have NB181_182:=n5_;have NB182_181:=n6_;clear n0_ n1_ n2_ n3_ n4_ n5_ n6_;clear hb hbox hg;have hnb16:=NB182_181.out;have hnc16:=NB181_182.out;have hcz17_0:w15.cell? ⟨gb182,0,none⟩ = some (.int .i64 a1_0):=(blk_cell BK182.out 0).trans rfl;have hcz17_1:w15.cell? ⟨gb182,1,none⟩ = some (.int .i64 a1_1):=(blk_cell BK182.out 1).trans rfl;have hfz17_0:=blk_frozen BK182.out 0;have hfz17_1:=blk_frozen BK182.out 1;have hcz18_0:w15.cell? ⟨gb181,0,none⟩ = some (.int .i64 a0_0):=(blk_cell BK181.out 0).trans rfl;have hcz18_1:w15.cell? ⟨gb181,1,none⟩ = some (.int .i64 a0_1):=(blk_cell BK181.out 1).trans rfl;have hfz18_0:=blk_frozen BK181.out 0;have hfz18_1:=blk_frozen BK181.out 1))
    replace BK181:=aM (yD BK181.out)
    replace BK182:=aM (yD BK182.out)
    replace HB:=aM (zD HB.out)
    refine start_ (n:=5) (S:=fun w'=>w'.cell? ⟨gb181,0,none⟩ = some (.int .i64 a0_0) ∧ w'.cell? ⟨gb181,1,none⟩ = some (.int .i64 a0_1) ∧ w'.cell? ⟨gb182,0,none⟩ = some (.int .i64 a1_0) ∧ w'.cell? ⟨gb182,1,none⟩ = some (.int .i64 a1_1)) (ds:=[]) #[fF,fF,fF,fF,fF] (by kernel_rfl) rfl rfl ⟨(blk_cell BK181.out 0).trans rfl,(blk_cell BK181.out 1).trans rfl,(blk_cell BK182.out 0).trans rfl,(blk_cell BK182.out 1).trans rfl⟩ (fun hHeld=>?_)
    generalize w15.drew = w19 at BK181 BK182 HB hHeld ⊢
    refine take_ (i:=0) (N:=some 13) (v:=?_) (a':=?_) #[tT,fF,fF,fF,fF] rfl rfl (by kernel_rfl) (fun _ _ _ h=>h) (Or.inl ⟨by rfl,?_⟩) hHeld ?_ ?_
    rotate_left
    ·rintro w' ⟨s0,s1,s2,s3⟩
     go_simp
     with_reducible rfl
    rotate_left
    ·simp only [Act.put,sI,sZ,sS,i64_w,i32_w]
     rfl
    refine take_ (i:=2) (N:=some 15) (v:=?_) (a':=?_) #[tT,fF,tT,fF,fF] rfl rfl (by kernel_rfl) (fun _ _ _ h=>h) (Or.inl ⟨by rfl,?_⟩) hHeld ?_ ?_
    rotate_left
    ·rintro w' ⟨s0,s1,s2,s3⟩
     go_simp
     with_reducible rfl
    rotate_left
    ·simp only [Act.put,sI,sZ,sS,i64_w,i32_w]
     rfl
    refine one_ (i:=1) (N:=some 14) #[tT,tT,tT,fF,fF] rfl rfl (by kernel_rfl) (by decide) (fun K hK=>?_)
    refine goes_ Try.func60 (by kernel_rfl) rfl #[.agg #[.int .i64 a0_0,.int .i64 a0_1]] (by rfl) rfl rfl (by (try simp only [sM,sC,sN]);first|done|rfl|(simp only [List.length_drop,List.length_take];rfl)) ?_
    with_reducible refine (spec_l01Double.calls k a0_0 a0_1 t183 t184 _ A3.out).mono ?_
    rintro e w20 ⟨rfl,hb⟩
    refine ⟨_,rfl,?_⟩
    replace BK181:=aM (blk_below (g:=gb181) (o:=.cells #[.int .i64 a0_0,.int .i64 a0_1] 59 (0,0)) BK181.out hb)
    replace BK182:=aM (blk_below (g:=gb182) (o:=.cells #[.int .i64 a1_0,.int .i64 a1_1] 59 (0,0)) BK182.out hb)
    replace HB:=aM (below_step HB.out hb)
    (try clear hb)
    refine hK.out _ _ ⟨(blk_cell BK181.out 0).trans rfl,(blk_cell BK181.out 1).trans rfl,(blk_cell BK182.out 0).trans rfl,(blk_cell BK182.out 1).trans rfl⟩ (fun hHeld=>?_)
    clear hK K
    refine norm_ (a':=?_) ?_ ?_
    rotate_left
    ·show Act.put _ (some 14) _ = _
     simp only [Act.put,sI,sZ,sS,i64_w,i32_w]
     rfl
    refine pure_ (i:=3) (N:=some 16) (v:=?_) (a':=?_) #[tT,tT,tT,tT,fF] rfl rfl (by kernel_rfl) (fun _ _ _ h=>h) (Or.inl ⟨by rfl,?_⟩) ?_ ?_
    rotate_left
    ·intro w'
     go_simp
     with_reducible rfl
    rotate_left
    ·simp only [Act.put,sI,sZ,sS,i64_w,i32_w]
     rfl
    refine pure_ (i:=4) (N:=some 12) (v:=?_) (a':=?_) #[tT,tT,tT,tT,tT] rfl rfl (by kernel_rfl) (fun _ _ _ h=>h) (Or.inl ⟨by rfl,?_⟩) ?_ ?_
    rotate_left
    ·intro w'
     go_simp
     with_reducible rfl
    rotate_left
    ·simp only [Act.put,sI,sZ,sS,i64_w,i32_w]
     rfl
    refine done_ (by kernel_rfl) ?_
    have hcz21_0:w20.cell? ⟨gb182,0,none⟩ = some (.int .i64 a1_0):=(blk_cell BK182.out 0).trans rfl
    have hcz21_1:w20.cell? ⟨gb182,1,none⟩ = some (.int .i64 a1_1):=(blk_cell BK182.out 1).trans rfl
    have hfz21_0:=blk_frozen BK182.out 0
    have hfz21_1:=blk_frozen BK182.out 1
    have hcz22_0:w20.cell? ⟨gb181,0,none⟩ = some (.int .i64 a0_0):=(blk_cell BK181.out 0).trans rfl
    have hcz22_1:w20.cell? ⟨gb181,1,none⟩ = some (.int .i64 a0_1):=(blk_cell BK181.out 1).trans rfl
    have hfz22_0:=blk_frozen BK181.out 0
    have hfz22_1:=blk_frozen BK181.out 1
    try go_wp2
    go_ret
    exact ⟨by first|rfl|(simp [errW_none,errW_some] <;> rfl)|(simp [*,errW_none,errW_some] <;> rfl),HB.out⟩
   ·rw [if_neg c13] at H
    have c13b0:decide ((wrap64 ((wrap64 (2 * a1_1)) * a0_0)) < (wrap64 ((wrap64 (a1_0 + a1_1)) * a0_1))) = false:=decide_eq_false c13
    clear c13
    obtain rfl:=Option.some.inj H
    go_enter Try.func46,Try.ntmps46
    try go_wp2_with (first|((with_reducible refine gate_dst (N:=2) rfl ?_);refine box_event ?hg (N:=2) ?hd (cs:=#[.int .i64 a0_0,.int .i64 a0_1]) (t:=59) ?hr ?_;(case hd=>rfl);(case hg=>rfl);(case hr=>first|(go_simp;done)|(go_simp;rfl));intro gb181 hg w23 hbox hb;have n0_:=aM (below_step HB.out hb);have n1_:=aM (hbox);have n2_:=aM ((by rw [hg];exact (below_size HB.out):w.heap.size ≤ gb181));have n3_:=aM ((by rw [hg];exact (below_size HB.out):w.heap.size ≤ gb181));clear HB;have HB:=n0_;have BK181:=n1_;have GW181:=n2_;have GE181:=n3_;clear n0_ n1_ n2_ n3_;clear hb hbox hg)|((with_reducible refine gate_dst (N:=3) rfl ?_);refine box_event ?hg (N:=3) ?hd (cs:=#[.int .i64 a1_0,.int .i64 a1_1]) (t:=59) ?hr ?_;(case hd=>rfl);(case hg=>rfl);(case hr=>first|(go_simp;done)|(go_simp;rfl));intro gb182 hg w24 hbox hb;have n0_:=aM (blk_below (g:=gb181) (o:=.cells #[.int .i64 a0_0,.int .i64 a0_1] 59 (0,0)) BK181.out hb);have n1_:=aM (below_step HB.out hb);have n2_:=aM (hbox);have n3_:=aM ((by rw [hg];exact (below_size HB.out):w.heap.size ≤ gb182));have n4_:=aM ((by rw [hg];exact (below_size HB.out):w.heap.size ≤ gb182));have n5_:=aM ((by rw [hg];exact Nat.ne_of_lt (blk_lt (g:=gb181) (o:=.cells #[.int .i64 a0_0,.int .i64 a0_1] 59 (0,0)) BK181.out):gb181 ≠ gb182));have n6_:=aM ((by rw [hg];exact Nat.ne_of_gt (blk_lt (g:=gb181) (o:=.cells #[.int .i64 a0_0,.int .i64 a0_1] 59 (0,0)) BK181.out):gb182 ≠ gb181));clear BK181;clear HB;have BK181:=n0_;have HB:=n1_;have BK182:=n2_;have GW182:=n3_;have GE182:=n4_;have NB181_182:=n5_;have NB182_181:=n6_;clear n0_ n1_ n2_ n3_ n4_ n5_ n6_;clear hb hbox hg;have hnb25:=NB182_181.out;have hnc25:=NB181_182.out;have hcz26_0:w24.cell? ⟨gb182,0,none⟩ = some (.int .i64 a1_0):=(blk_cell BK182.out 0).trans rfl;have hcz26_1:w24.cell? ⟨gb182,1,none⟩ = some (.int .i64 a1_1):=(blk_cell BK182.out 1).trans rfl;have hfz26_0:=blk_frozen BK182.out 0;have hfz26_1:=blk_frozen BK182.out 1;have hcz27_0:w24.cell? ⟨gb181,0,none⟩ = some (.int .i64 a0_0):=(blk_cell BK181.out 0).trans rfl;have hcz27_1:w24.cell? ⟨gb181,1,none⟩ = some (.int .i64 a0_1):=(blk_cell BK181.out 1).trans rfl;have hfz27_0:=blk_frozen BK181.out 0;have hfz27_1:=blk_frozen BK181.out 1))
    replace BK181:=aM (yD BK181.out)
    replace BK182:=aM (yD BK182.out)
    replace HB:=aM (zD HB.out)
    refine start_ (n:=5) (S:=fun w'=>w'.cell? ⟨gb181,0,none⟩ = some (.int .i64 a0_0) ∧ w'.cell? ⟨gb181,1,none⟩ = some (.int .i64 a0_1) ∧ w'.cell? ⟨gb182,0,none⟩ = some (.int .i64 a1_0) ∧ w'.cell? ⟨gb182,1,none⟩ = some (.int .i64 a1_1)) (ds:=[]) #[fF,fF,fF,fF,fF] (by kernel_rfl) rfl rfl ⟨(blk_cell BK181.out 0).trans rfl,(blk_cell BK181.out 1).trans rfl,(blk_cell BK182.out 0).trans rfl,(blk_cell BK182.out 1).trans rfl⟩ (fun hHeld=>?_)
    generalize w24.drew = w28 at BK181 BK182 HB hHeld ⊢
    refine take_ (i:=0) (N:=some 13) (v:=?_) (a':=?_) #[tT,fF,fF,fF,fF] rfl rfl (by kernel_rfl) (fun _ _ _ h=>h) (Or.inl ⟨by rfl,?_⟩) hHeld ?_ ?_
    rotate_left
    ·rintro w' ⟨s0,s1,s2,s3⟩
     go_simp
     with_reducible rfl
    rotate_left
    ·simp only [Act.put,sI,sZ,sS,i64_w,i32_w]
     rfl
    refine take_ (i:=2) (N:=some 15) (v:=?_) (a':=?_) #[tT,fF,tT,fF,fF] rfl rfl (by kernel_rfl) (fun _ _ _ h=>h) (Or.inl ⟨by rfl,?_⟩) hHeld ?_ ?_
    rotate_left
    ·rintro w' ⟨s0,s1,s2,s3⟩
     go_simp
     with_reducible rfl
    rotate_left
    ·simp only [Act.put,sI,sZ,sS,i64_w,i32_w]
     rfl
    refine one_ (i:=1) (N:=some 14) #[tT,tT,tT,fF,fF] rfl rfl (by kernel_rfl) (by decide) (fun K hK=>?_)
    refine goes_ Try.func60 (by kernel_rfl) rfl #[.agg #[.int .i64 a0_0,.int .i64 a0_1]] (by rfl) rfl rfl (by (try simp only [sM,sC,sN]);first|done|rfl|(simp only [List.length_drop,List.length_take];rfl)) ?_
    with_reducible refine (spec_l01Double.calls k a0_0 a0_1 t183 t184 _ A3.out).mono ?_
    rintro e w29 ⟨rfl,hb⟩
    refine ⟨_,rfl,?_⟩
    replace BK181:=aM (blk_below (g:=gb181) (o:=.cells #[.int .i64 a0_0,.int .i64 a0_1] 59 (0,0)) BK181.out hb)
    replace BK182:=aM (blk_below (g:=gb182) (o:=.cells #[.int .i64 a1_0,.int .i64 a1_1] 59 (0,0)) BK182.out hb)
    replace HB:=aM (below_step HB.out hb)
    (try clear hb)
    refine hK.out _ _ ⟨(blk_cell BK181.out 0).trans rfl,(blk_cell BK181.out 1).trans rfl,(blk_cell BK182.out 0).trans rfl,(blk_cell BK182.out 1).trans rfl⟩ (fun hHeld=>?_)
    clear hK K
    refine norm_ (a':=?_) ?_ ?_
    rotate_left
    ·show Act.put _ (some 14) _ = _
     simp only [Act.put,sI,sZ,sS,i64_w,i32_w]
     rfl
    refine pure_ (i:=3) (N:=some 16) (v:=?_) (a':=?_) #[tT,tT,tT,tT,fF] rfl rfl (by kernel_rfl) (fun _ _ _ h=>h) (Or.inl ⟨by rfl,?_⟩) ?_ ?_
    rotate_left
    ·intro w'
     go_simp
     with_reducible rfl
    rotate_left
    ·simp only [Act.put,sI,sZ,sS,i64_w,i32_w]
     rfl
    refine pure_ (i:=4) (N:=some 12) (v:=?_) (a':=?_) #[tT,tT,tT,tT,tT] rfl rfl (by kernel_rfl) (fun _ _ _ h=>h) (Or.inl ⟨by rfl,?_⟩) ?_ ?_
    rotate_left
    ·intro w'
     go_simp
     with_reducible rfl
    rotate_left
    ·simp only [Act.put,sI,sZ,sS,i64_w,i32_w]
     rfl
    refine done_ (by kernel_rfl) ?_
    have hcz30_0:w29.cell? ⟨gb182,0,none⟩ = some (.int .i64 a1_0):=(blk_cell BK182.out 0).trans rfl
    have hcz30_1:w29.cell? ⟨gb182,1,none⟩ = some (.int .i64 a1_1):=(blk_cell BK182.out 1).trans rfl
    have hfz30_0:=blk_frozen BK182.out 0
    have hfz30_1:=blk_frozen BK182.out 1
    have hcz31_0:w29.cell? ⟨gb181,0,none⟩ = some (.int .i64 a0_0):=(blk_cell BK181.out 0).trans rfl
    have hcz31_1:w29.cell? ⟨gb181,1,none⟩ = some (.int .i64 a0_1):=(blk_cell BK181.out 1).trans rfl
    have hfz31_0:=blk_frozen BK181.out 0
    have hfz31_1:=blk_frozen BK181.out 1
    try go_wp2
    go_ret
    exact ⟨by first|rfl|(simp [errW_none,errW_some] <;> rfl)|(simp [*,errW_none,errW_some] <;> rfl),HB.out⟩
  ·rw [if_neg c12] at H
   have c12b0:decide ((wrap64 (a1_0 * a0_1)) < (wrap64 ((wrap64 (2 * a1_1)) * a0_0))) = false:=decide_eq_false c12
   clear c12
   obtain rfl:=Option.some.inj H
   go_enter Try.func46,Try.ntmps46
   try go_wp2_with (first|((with_reducible refine gate_dst (N:=2) rfl ?_);refine box_event ?hg (N:=2) ?hd (cs:=#[.int .i64 a0_0,.int .i64 a0_1]) (t:=59) ?hr ?_;(case hd=>rfl);(case hg=>rfl);(case hr=>first|(go_simp;done)|(go_simp;rfl));intro gb181 hg w32 hbox hb;have n0_:=aM (below_step HB.out hb);have n1_:=aM (hbox);have n2_:=aM ((by rw [hg];exact (below_size HB.out):w.heap.size ≤ gb181));have n3_:=aM ((by rw [hg];exact (below_size HB.out):w.heap.size ≤ gb181));clear HB;have HB:=n0_;have BK181:=n1_;have GW181:=n2_;have GE181:=n3_;clear n0_ n1_ n2_ n3_;clear hb hbox hg)|((with_reducible refine gate_dst (N:=3) rfl ?_);refine box_event ?hg (N:=3) ?hd (cs:=#[.int .i64 a1_0,.int .i64 a1_1]) (t:=59) ?hr ?_;(case hd=>rfl);(case hg=>rfl);(case hr=>first|(go_simp;done)|(go_simp;rfl));intro gb182 hg w33 hbox hb;have n0_:=aM (blk_below (g:=gb181) (o:=.cells #[.int .i64 a0_0,.int .i64 a0_1] 59 (0,0)) BK181.out hb);have n1_:=aM (below_step HB.out hb);have n2_:=aM (hbox);have n3_:=aM ((by rw [hg];exact (below_size HB.out):w.heap.size ≤ gb182));have n4_:=aM ((by rw [hg];exact (below_size HB.out):w.heap.size ≤ gb182));have n5_:=aM ((by rw [hg];exact Nat.ne_of_lt (blk_lt (g:=gb181) (o:=.cells #[.int .i64 a0_0,.int .i64 a0_1] 59 (0,0)) BK181.out):gb181 ≠ gb182));have n6_:=aM ((by rw [hg];exact Nat.ne_of_gt (blk_lt (g:=gb181) (o:=.cells #[.int .i64 a0_0,.int .i64 a0_1] 59 (0,0)) BK181.out):gb182 ≠ gb181));clear BK181;clear HB;have BK181:=n0_;have HB:=n1_;have BK182:=n2_;have GW182:=n3_;have GE182:=n4_;have NB181_182:=n5_;have NB182_181:=n6_;clear n0_ n1_ n2_ n3_ n4_ n5_ n6_;clear hb hbox hg;have hnb34:=NB182_181.out;have hnc34:=NB181_182.out;have hcz35_0:w33.cell? ⟨gb182,0,none⟩ = some (.int .i64 a1_0):=(blk_cell BK182.out 0).trans rfl;have hcz35_1:w33.cell? ⟨gb182,1,none⟩ = some (.int .i64 a1_1):=(blk_cell BK182.out 1).trans rfl;have hfz35_0:=blk_frozen BK182.out 0;have hfz35_1:=blk_frozen BK182.out 1;have hcz36_0:w33.cell? ⟨gb181,0,none⟩ = some (.int .i64 a0_0):=(blk_cell BK181.out 0).trans rfl;have hcz36_1:w33.cell? ⟨gb181,1,none⟩ = some (.int .i64 a0_1):=(blk_cell BK181.out 1).trans rfl;have hfz36_0:=blk_frozen BK181.out 0;have hfz36_1:=blk_frozen BK181.out 1))
   replace BK181:=aM (yD BK181.out)
   replace BK182:=aM (yD BK182.out)
   replace HB:=aM (zD HB.out)
   refine start_ (n:=5) (S:=fun w'=>w'.cell? ⟨gb181,0,none⟩ = some (.int .i64 a0_0) ∧ w'.cell? ⟨gb181,1,none⟩ = some (.int .i64 a0_1) ∧ w'.cell? ⟨gb182,0,none⟩ = some (.int .i64 a1_0) ∧ w'.cell? ⟨gb182,1,none⟩ = some (.int .i64 a1_1)) (ds:=[]) #[fF,fF,fF,fF,fF] (by kernel_rfl) rfl rfl ⟨(blk_cell BK181.out 0).trans rfl,(blk_cell BK181.out 1).trans rfl,(blk_cell BK182.out 0).trans rfl,(blk_cell BK182.out 1).trans rfl⟩ (fun hHeld=>?_)
   generalize w33.drew = w37 at BK181 BK182 HB hHeld ⊢
   refine take_ (i:=0) (N:=some 13) (v:=?_) (a':=?_) #[tT,fF,fF,fF,fF] rfl rfl (by kernel_rfl) (fun _ _ _ h=>h) (Or.inl ⟨by rfl,?_⟩) hHeld ?_ ?_
   rotate_left
   ·rintro w' ⟨s0,s1,s2,s3⟩
    go_simp
    with_reducible rfl
   rotate_left
   ·simp only [Act.put,sI,sZ,sS,i64_w,i32_w]
    rfl
   refine take_ (i:=2) (N:=some 15) (v:=?_) (a':=?_) #[tT,fF,tT,fF,fF] rfl rfl (by kernel_rfl) (fun _ _ _ h=>h) (Or.inl ⟨by rfl,?_⟩) hHeld ?_ ?_
   rotate_left
   ·rintro w' ⟨s0,s1,s2,s3⟩
    go_simp
    with_reducible rfl
   rotate_left
   ·simp only [Act.put,sI,sZ,sS,i64_w,i32_w]
    rfl
   refine one_ (i:=1) (N:=some 14) #[tT,tT,tT,fF,fF] rfl rfl (by kernel_rfl) (by decide) (fun K hK=>?_)
   refine goes_ Try.func60 (by kernel_rfl) rfl #[.agg #[.int .i64 a0_0,.int .i64 a0_1]] (by rfl) rfl rfl (by (try simp only [sM,sC,sN]);first|done|rfl|(simp only [List.length_drop,List.length_take];rfl)) ?_
   with_reducible refine (spec_l01Double.calls k a0_0 a0_1 t183 t184 _ A3.out).mono ?_
   rintro e w38 ⟨rfl,hb⟩
   refine ⟨_,rfl,?_⟩
   replace BK181:=aM (blk_below (g:=gb181) (o:=.cells #[.int .i64 a0_0,.int .i64 a0_1] 59 (0,0)) BK181.out hb)
   replace BK182:=aM (blk_below (g:=gb182) (o:=.cells #[.int .i64 a1_0,.int .i64 a1_1] 59 (0,0)) BK182.out hb)
   replace HB:=aM (below_step HB.out hb)
   (try clear hb)
   refine hK.out _ _ ⟨(blk_cell BK181.out 0).trans rfl,(blk_cell BK181.out 1).trans rfl,(blk_cell BK182.out 0).trans rfl,(blk_cell BK182.out 1).trans rfl⟩ (fun hHeld=>?_)
   clear hK K
   refine norm_ (a':=?_) ?_ ?_
   rotate_left
   ·show Act.put _ (some 14) _ = _
    simp only [Act.put,sI,sZ,sS,i64_w,i32_w]
    rfl
   refine pure_ (i:=3) (N:=some 16) (v:=?_) (a':=?_) #[tT,tT,tT,tT,fF] rfl rfl (by kernel_rfl) (fun _ _ _ h=>h) (Or.inl ⟨by rfl,?_⟩) ?_ ?_
   rotate_left
   ·intro w'
    go_simp
    with_reducible rfl
   rotate_left
   ·simp only [Act.put,sI,sZ,sS,i64_w,i32_w]
    rfl
   refine pure_ (i:=4) (N:=some 12) (v:=?_) (a':=?_) #[tT,tT,tT,tT,tT] rfl rfl (by kernel_rfl) (fun _ _ _ h=>h) (Or.inl ⟨by rfl,?_⟩) ?_ ?_
   rotate_left
   ·intro w'
    go_simp
    with_reducible rfl
   rotate_left
   ·simp only [Act.put,sI,sZ,sS,i64_w,i32_w]
    rfl
   refine done_ (by kernel_rfl) ?_
   have hcz39_0:w38.cell? ⟨gb182,0,none⟩ = some (.int .i64 a1_0):=(blk_cell BK182.out 0).trans rfl
   have hcz39_1:w38.cell? ⟨gb182,1,none⟩ = some (.int .i64 a1_1):=(blk_cell BK182.out 1).trans rfl
   have hfz39_0:=blk_frozen BK182.out 0
   have hfz39_1:=blk_frozen BK182.out 1
   have hcz40_0:w38.cell? ⟨gb181,0,none⟩ = some (.int .i64 a0_0):=(blk_cell BK181.out 0).trans rfl
   have hcz40_1:w38.cell? ⟨gb181,1,none⟩ = some (.int .i64 a0_1):=(blk_cell BK181.out 1).trans rfl
   have hfz40_0:=blk_frozen BK181.out 0
   have hfz40_1:=blk_frozen BK181.out 1
   try go_wp2
   go_ret
   exact ⟨by first|rfl|(simp [errW_none,errW_some] <;> rfl)|(simp [*,errW_none,errW_some] <;> rfl),HB.out⟩
end Go.Proofs.Ytccinmopfchjlaa.Q
end
section
namespace Go.Proofs.Ytccinmopfchjlaa.Q
open Go.Proofs.YtccinmopfchjlaaW.Ext
open Go.RowKit Go.Proofs.YtccinmopfchjlaaW.PrintWords Go.Proofs.YtccinmopfchjlaaW.PrintLast Go.Proofs.YtccinmopfchjlaaW.PrintMore
attribute [local go_sem] max2_int min2_int max_two min_two max_three min_three max_four min_four   -- for this text's walks alone
set_option linter.unusedVariables false
set_option linter.unusedSimpArgs false
def spec_l02Itinerary.l0:Nat → List (S59) → Int → List Int → Int → Int → Int → Option (ByteArray × ByteArray × Bool)
 | 0,_,_,_,_,_,_=>none
 | k + 1,x6,x7,x9,x10,x187000,x187001=>if x10 < (x6.length:Int) then (if 0 ≤ x10 then ((spec_l02Letter.f k ((rd_T59 x6 x10).f0) ((rd_T59 x6 x10).f1) x187000 x187001).bind fun t197=>(if x9.length < 140737488355328 then (spec_l02Itinerary.l0 k x6 x7 (x9 ++ [t197]) (wrap64 (x10 + 1)) x187000 x187001) else (none))) else (none)) else (if 0 ≤ x7 then (if x7 ≤ (x9.length:Int) then ((spec_l01Canonical.f k (strOfNums (x9.take (x7:Int).toNat)) (strOfNums (x9.drop (x7:Int).toNat))).bind fun bt209=>(some (bt209.1,bt209.2,true))) else (none)) else (none))
def spec_l02Itinerary.f (k:Nat) (a0_0:Int) (a0_1:Int) (a1_0:Int) (a1_1:Int):Option (ByteArray × ByteArray × Bool):=(spec_l01Orbit.f k a0_0 a0_1).bind fun bt188=>(if bt188.2.2 = true then (spec_l02Itinerary.l0 k bt188.1 bt188.2.1 (([]:List Int)) 0 a1_0 a1_1) else (some ((⟨#[]⟩:ByteArray),(⟨#[]⟩:ByteArray),false)))
theorem spec_l02Itinerary.mono_l:∀ k,(∀ y0 y1 y2 y3 y4 y5,LeO (spec_l02Itinerary.l0 k y0 y1 y2 y3 y4 y5) (spec_l02Itinerary.l0 (k + 1) y0 y1 y2 y3 y4 y5))
 | 0=>fun _ _ _ _ _ _ r h=>by simp [spec_l02Itinerary.l0] at h
 | k + 1=>by
  have ih0:=spec_l02Itinerary.mono_l k
  ·intro y0 y1 y2 y3 y4 y5
   unfold spec_l02Itinerary.l0
   repeat' first
   | (with_reducible exact ih0 _ _ _ _ _ _)
   | (with_reducible exact spec_l01Canonical.mono _ _ _)
   | (with_reducible exact spec_l01Orbit.mono _ _ _)
   | (with_reducible exact spec_l02Letter.mono _ _ _ _ _)
   | (with_reducible exact LeO.refl _)
   | (with_reducible exact LeO.none _)
   | (with_reducible refine LeO.ite ?_ ?_)
   | (with_reducible refine LeO.bind ?_ (fun _=>?_))
   | exact ih0 _ _ _ _ _ _
   | exact spec_l01Canonical.mono _ _ _
   | exact spec_l01Orbit.mono _ _ _
   | exact spec_l02Letter.mono _ _ _ _ _
   | exact LeO.none _
   | refine LeO.ite ?_ ?_
   | refine LeO.bind ?_ (fun _=>?_)
theorem spec_l02Itinerary.mono:∀ a0 a1 a2 a3 k,LeO (spec_l02Itinerary.f k a0 a1 a2 a3) (spec_l02Itinerary.f (k + 1) a0 a1 a2 a3):=by
 intro a0 a1 a2 a3 k
 have ih0:=spec_l02Itinerary.mono_l k
 unfold spec_l02Itinerary.f
 repeat' first
   | (with_reducible exact ih0 _ _ _ _ _ _)
   | (with_reducible exact spec_l01Canonical.mono _ _ _)
   | (with_reducible exact spec_l01Orbit.mono _ _ _)
   | (with_reducible exact spec_l02Letter.mono _ _ _ _ _)
   | (with_reducible exact LeO.refl _)
   | (with_reducible exact LeO.none _)
   | (with_reducible refine LeO.ite ?_ ?_)
   | (with_reducible refine LeO.bind ?_ (fun _=>?_))
   | exact ih0 _ _ _ _ _ _
   | exact spec_l01Canonical.mono _ _ _
   | exact spec_l01Orbit.mono _ _ _
   | exact spec_l02Letter.mono _ _ _ _ _
   | exact LeO.none _
   | refine LeO.ite ?_ ?_
   | refine LeO.bind ?_ (fun _=>?_)
def spec_l02Itinerary.T8:Bool × List (List Nat × List Nat):=(true,[([],[]),([],[]),([],[]),([1,2],[1,2]),([3],[3]),([],[]),([4,5],[4,5]),([6],[6]),([0,7,6],[0,7]),([8,8,0,1,2,3,4,5,6,7,8],[0,8])])
def spec_l02Itinerary.B8:List Nat:=[0,0,0,6,14,0,62,126,255,511]
theorem spec_l02Itinerary.tab8:rtab .any (opsOf Try.f34 8) = spec_l02Itinerary.T8:=by kernel_rfl
theorem spec_l02Itinerary.bits8:waitsOk spec_l02Itinerary.T8.2 spec_l02Itinerary.B8 = true:=by kernel_rfl
def spec_l02Itinerary.T9:Bool × List (List Nat × List Nat):=(true,[([],[]),([],[]),([0,1],[0,1]),([2],[2]),([],[]),([],[]),([4,5],[4,5]),([6],[6]),([3,7],[3,7]),([8,8,0,1,2,3,4,5,6,7,8],[8]),([9,0,1,2,3,4,5,6,7,8,9],[])])
def spec_l02Itinerary.B9:List Nat:=[0,0,3,7,0,0,48,112,255,511,1023]
theorem spec_l02Itinerary.tab9:rtab .any (opsOf Try.f34 9) = spec_l02Itinerary.T9:=by kernel_rfl
theorem spec_l02Itinerary.bits9:waitsOk spec_l02Itinerary.T9.2 spec_l02Itinerary.B9 = true:=by kernel_rfl
set_option maxHeartbeats 8000000 in
set_option maxRecDepth 100000 in
theorem spec_l02Itinerary.calls (k:Nat) (a0_0:Int) (a0_1:Int) (a1_0:Int) (a1_1:Int) (r1:ByteArray) (r2:ByteArray) (r3:Bool) (w:World) (h:spec_l02Itinerary.f k a0_0 a0_1 a1_0 a1_1 = some (r1,r2,r3)) :
  Calls Try.prog 34 #[.agg #[.int .i64 a0_0,.int .i64 a0_1],.agg #[.int .i64 a1_0,.int .i64 a1_1]] w fun e w'=>e = .returned (.tuple #[.agg #[.string r1,.string r2],.bool r3]) ∧ Below w.heap.size w w':=by
 have hu59:=Try.underlying59
 have hu25:=Try.underlying25
 have HB:=aM (Below.refl w.heap.size w)
 have H:((spec_l01Orbit.f k a0_0 a0_1).bind fun bt188=>(if bt188.2.2 = true then (spec_l02Itinerary.l0 k bt188.1 bt188.2.1 (([]:List Int)) 0 a1_0 a1_1) else (some ((⟨#[]⟩:ByteArray),(⟨#[]⟩:ByteArray),false)))) = some (r1,r2,r3):=h
 clear h
 replace H:=Option.bind_eq_some_iff.mp H
 obtain ⟨⟨t188,t191,t192⟩,A30,H⟩:=H
 replace H:(if t192 = true then (spec_l02Itinerary.l0 k t188 t191 (([]:List Int)) 0 a1_0 a1_1) else (some ((⟨#[]⟩:ByteArray),(⟨#[]⟩:ByteArray),false))) = some (r1,r2,r3):=H
 have A3:=aM A30
 clear A30
 by_cases c4:t192 = true
 ·subst c4
  have H1:(spec_l02Itinerary.l0 k t188 t191 (([]:List Int)) 0 a1_0 a1_1) = some (r1,r2,r3):=by rw [if_pos rfl] at H;exact H
  clear H
  have H:=H1
  clear H1
  obtain ⟨y193,hy193⟩:∃ y_:List Int,y_ = (([]:List Int)):=⟨_,rfl⟩
  replace H:(spec_l02Itinerary.l0 k t188 t191 y193 0 a1_0 a1_1) = some (r1,r2,r3):=by first|(rw [hy193];with_reducible exact H)|(have H2_:=(Option.bind_some _ _).symm.trans H;rw [hy193];with_reducible exact H2_)|(have H2_:=(Option.bind_some _ _).symm.trans H;with_reducible exact H2_)|with_reducible exact H|(rw [hy193];exact H)|exact H
  have Ny193:=aM hy193
  clear hy193
  have H':=aM H
  clear H
  go_enter Try.func34,Try.ntmps34
  go_wp2_with (first|((with_reducible refine gate_dst (N:=2) rfl ?_);refine box_event ?hg (N:=2) ?hd (cs:=#[.int .i64 a0_0,.int .i64 a0_1]) (t:=59) ?hr ?_;(case hd=>rfl);(case hg=>rfl);(case hr=>first|(go_simp;done)|(go_simp;rfl));intro gb185 hg w5 hbox hb;have n0_:=aM (below_step HB.out hb);have n1_:=aM (hbox);have n2_:=aM ((by rw [hg];exact (below_size HB.out):w.heap.size ≤ gb185));have n3_:=aM ((by rw [hg];exact (below_size HB.out):w.heap.size ≤ gb185));clear HB;have HB:=n0_;have BK185:=n1_;have GW185:=n2_;have GE185:=n3_;clear n0_ n1_ n2_ n3_;clear hb hbox hg)|((with_reducible refine gate_dst (N:=3) rfl ?_);refine box_event ?hg (N:=3) ?hd (cs:=#[.int .i64 a1_0,.int .i64 a1_1]) (t:=59) ?hr ?_;(case hd=>rfl);(case hg=>rfl);(case hr=>first|(go_simp;done)|(go_simp;rfl));intro gb186 hg w6 hbox hb;have n0_:=aM (blk_below (g:=gb185) (o:=.cells #[.int .i64 a0_0,.int .i64 a0_1] 59 (0,0)) BK185.out hb);have n1_:=aM (below_step HB.out hb);have n2_:=aM (hbox);have n3_:=aM ((by rw [hg];exact (below_size HB.out):w.heap.size ≤ gb186));have n4_:=aM ((by rw [hg];exact (below_size HB.out):w.heap.size ≤ gb186));have n5_:=aM ((by rw [hg];exact Nat.ne_of_lt (blk_lt (g:=gb185) (o:=.cells #[.int .i64 a0_0,.int .i64 a0_1] 59 (0,0)) BK185.out):gb185 ≠ gb186));have n6_:=aM ((by rw [hg];exact Nat.ne_of_gt (blk_lt (g:=gb185) (o:=.cells #[.int .i64 a0_0,.int .i64 a0_1] 59 (0,0)) BK185.out):gb186 ≠ gb185));clear BK185;clear HB;have BK185:=n0_;have HB:=n1_;have BK186:=n2_;have GW186:=n3_;have GE186:=n4_;have NB185_186:=n5_;have NB186_185:=n6_;clear n0_ n1_ n2_ n3_ n4_ n5_ n6_;clear hb hbox hg)|((with_reducible refine gate_dst (N:=4) rfl ?_);refine box_event ?hg (N:=4) ?hd (cs:=#[.string ⟨#[]⟩,.string ⟨#[]⟩]) (t:=25) ?hr ?_;(case hd=>rfl);(case hg=>rfl);(case hr=>first|(go_simp;done)|(go_simp;rfl));intro gb187 hg w7 hbox hb;have n0_:=aM (blk_below (g:=gb185) (o:=.cells #[.int .i64 a0_0,.int .i64 a0_1] 59 (0,0)) BK185.out hb);have n1_:=aM (blk_below (g:=gb186) (o:=.cells #[.int .i64 a1_0,.int .i64 a1_1] 59 (0,0)) BK186.out hb);have n2_:=aM (below_step HB.out hb);have n3_:=aM (hbox);have n4_:=aM ((by rw [hg];exact (below_size HB.out):w.heap.size ≤ gb187));have n5_:=aM ((by rw [hg];exact (below_size HB.out):w.heap.size ≤ gb187));have n6_:=aM ((by rw [hg];exact Nat.ne_of_lt (blk_lt (g:=gb185) (o:=.cells #[.int .i64 a0_0,.int .i64 a0_1] 59 (0,0)) BK185.out):gb185 ≠ gb187));have n7_:=aM ((by rw [hg];exact Nat.ne_of_gt (blk_lt (g:=gb185) (o:=.cells #[.int .i64 a0_0,.int .i64 a0_1] 59 (0,0)) BK185.out):gb187 ≠ gb185));have n8_:=aM ((by rw [hg];exact Nat.ne_of_lt (blk_lt (g:=gb186) (o:=.cells #[.int .i64 a1_0,.int .i64 a1_1] 59 (0,0)) BK186.out):gb186 ≠ gb187));have n9_:=aM ((by rw [hg];exact Nat.ne_of_gt (blk_lt (g:=gb186) (o:=.cells #[.int .i64 a1_0,.int .i64 a1_1] 59 (0,0)) BK186.out):gb187 ≠ gb186));clear BK185;clear BK186;clear HB;have BK185:=n0_;have BK186:=n1_;have HB:=n2_;have BK187:=n3_;have GW187:=n4_;have GE187:=n5_;have NB185_187:=n6_;have NB187_185:=n7_;have NB186_187:=n8_;have NB187_186:=n9_;clear n0_ n1_ n2_ n3_ n4_ n5_ n6_ n7_ n8_ n9_;clear hb hbox hg;have hnb8:=NB185_186.out;have hnc8:=NB186_185.out;have hnb9:=NB185_187.out;have hnc9:=NB187_185.out;have hcz10_0:w7.cell? ⟨gb185,0,none⟩ = some (.int .i64 a0_0):=(blk_cell BK185.out 0).trans rfl;have hcz10_1:w7.cell? ⟨gb185,1,none⟩ = some (.int .i64 a0_1):=(blk_cell BK185.out 1).trans rfl;have hfz10_0:=blk_frozen BK185.out 0;have hfz10_1:=blk_frozen BK185.out 1)|((with_reducible refine gate_callee (f:=45) rfl ?_);refine goesL_ (some 13) rfl rfl Try.func45 (by kernel_rfl) rfl #[.agg #[.int .i64 a0_0,.int .i64 a0_1]] rfl (by (try simp only [sM,sC,sN]);first|done|rfl|(simp only [List.length_drop,List.length_take];rfl)) ?_;(with_reducible refine (spec_l01Orbit.calls k a0_0 a0_1 t188 t191 true _ A3.out).mono ?_);rintro e w11 ⟨v189,rfl,ho0,hb⟩;refine ⟨_,rfl,?_⟩;have HO190:=aM (Kd.R_lower (Kd.R_newB (Kd.R_newB ho0 (g:=gb185) (o:=.cells #[.int .i64 a0_0,.int .i64 a0_1] 59 (0,0)) BK185.out) (g:=gb186) (o:=.cells #[.int .i64 a1_0,.int .i64 a1_1] 59 (0,0)) BK186.out) (below_size HB.out));replace BK185:=aM (blk_below (g:=gb185) (o:=.cells #[.int .i64 a0_0,.int .i64 a0_1] 59 (0,0)) BK185.out hb);replace BK186:=aM (blk_below (g:=gb186) (o:=.cells #[.int .i64 a1_0,.int .i64 a1_1] 59 (0,0)) BK186.out hb);replace BK187:=aM (blk_below (g:=gb187) (o:=.cells #[.string ⟨#[]⟩,.string ⟨#[]⟩] 25 (0,0)) BK187.out hb);replace HB:=aM (below_step HB.out hb);(try clear hb);(try clear hb2);(try clear hk);(try clear hi);(try clear ho0))|((with_reducible refine gate_dst (N:=20) rfl ?_);refine Kd.R_lit (Kd.int .u8) _ 5 ?hg (N:=20) ?hd (xs:=([]:List Int)) (inner:=[]) (ok:=fun _=>True) (okp:=fun _=>True) ?hr ?hp (fun _ hk=>hk) trivial (Below.refl _ _) (Nat.le_refl _) (by simp) ?_;(case hd=>rfl);(case hg=>rfl);(case hr=>first|(go_simp;done)|(go_simp;rfl));(case hp=>exact (Reps.none _ _));intro v194 w12 ho13 hb hg_ hnew_;clear hg_ hnew_;(first|rw [← Ny193.out] at ho13|(simp only [Int.reduceToNat] at ho13;rw [← Ny193.out] at ho13));replace HO190:=aM (Kd.R_below HO190.out hb);have HO195:=aM (Kd.R_lower ho13 (below_size HB.out));replace BK185:=aM (blk_below (g:=gb185) (o:=.cells #[.int .i64 a0_0,.int .i64 a0_1] 59 (0,0)) BK185.out hb);replace BK186:=aM (blk_below (g:=gb186) (o:=.cells #[.int .i64 a1_0,.int .i64 a1_1] 59 (0,0)) BK186.out hb);replace BK187:=aM (blk_below (g:=gb187) (o:=.cells #[.string ⟨#[]⟩,.string ⟨#[]⟩] 25 (0,0)) BK187.out hb);replace HB:=aM (below_step HB.out hb);clear hb ho13))
  go_loopg [9,10] k (fun kq v9 v10 w'=>∃ (x9_1:List Int) (x10_1:Int),v10 = .int .i64 x10_1 ∧ Aside0 (spec_l02Itinerary.l0 kq t188 t191 x9_1 x10_1 a1_0 a1_1 = some (r1,r2,r3)) ∧ Aside0 (kq ≤ k) ∧ Aside0 (Kd.R k59 59 w' w.heap.size (fun k_=>k_ ≠ gb185 ∧ k_ ≠ gb186) v189 t188) ∧ Aside0 (Kd.R (Kd.int .u8) 5 w' w.heap.size (fun _=>True) v9 x9_1) ∧ Aside0 (w'.heap[gb185]? = some (.cells #[.int .i64 a0_0,.int .i64 a0_1] 59 (0,0))) ∧ Aside0 (w'.heap[gb186]? = some (.cells #[.int .i64 a1_0,.int .i64 a1_1] 59 (0,0))) ∧ Aside0 (w'.heap[gb187]? = some (.cells #[.string ⟨#[]⟩,.string ⟨#[]⟩] 25 (0,0))) ∧ Aside0 (Below w.heap.size w w'))
  case atStart=>exact ⟨(y193),(0),(by first|rfl|(simp;done)|(simp [*];done)),H',⟨Nat.le_refl _⟩,⟨by (with_reducible repeat (first|apply rA|apply rN|apply rD));exact Kd.R_mono HO190.out (fun _ hk=>⟨hk.1.2,hk.2⟩)⟩,⟨HO195.out⟩,⟨BK185.out⟩,⟨BK186.out⟩,⟨BK187.out⟩,⟨HB.out⟩⟩
  case round =>
   clear H'
   try clear p2
   try clear c3
   try clear c4
   try clear c8
   try clear c9
   try clear hcz10_0
   try clear hcz10_1
   try clear hfz10_0
   try clear hfz10_1
   obtain ⟨x9_1,x10_1,rfl,HA,HK1,HO_6,HO_9,BK185,BK186,BK187,HB⟩:=hrel
   cases gk with
   | zero=>exact absurd HA.out (by simp [spec_l02Itinerary.l0])
   | succ k1 =>
    have H:=HA.out
    clear HA
    simp only [spec_l02Itinerary.l0] at H
    by_cases c14:x10_1 < (t188.length:Int)
    ·rw [if_pos c14] at H
     have c14b0:decide (x10_1 < (t188.length:Int)) = true:=decide_eq_true c14
     clear c14
     by_cases c15:0 ≤ x10_1
     ·rw [if_pos c15] at H
      have c15b0:decide (0 ≤ x10_1) = true:=decide_eq_true c15
      clear c15
      replace H:=Option.bind_eq_some_iff.mp H
      obtain ⟨t197,A160,H⟩:=H
      replace H:(if x9_1.length < 140737488355328 then (spec_l02Itinerary.l0 k1 t188 t191 (x9_1 ++ [t197]) (wrap64 (x10_1 + 1)) a1_0 a1_1) else (none)) = some (r1,r2,r3):=H
      have A16:=aM A160
      clear A160
      by_cases c17:x9_1.length < 140737488355328
      ·rw [if_pos c17] at H
       have LMc17:=aM c17
       clear c17
       obtain ⟨y198,hy198⟩:∃ y_:List Int,y_ = (x9_1 ++ [t197]):=⟨_,rfl⟩
       replace H:(spec_l02Itinerary.l0 k1 t188 t191 y198 (wrap64 (x10_1 + 1)) a1_0 a1_1) = some (r1,r2,r3):=by first|(rw [hy198];with_reducible exact H)|(have H2_:=(Option.bind_some _ _).symm.trans H;rw [hy198];with_reducible exact H2_)|(have H2_:=(Option.bind_some _ _).symm.trans H;with_reducible exact H2_)|with_reducible exact H|(rw [hy198];exact H)|exact H
       have Ny198:=aM hy198
       clear hy198
       have H':=aM H
       clear H
       obtain ⟨Ao18,co18,eo18⟩:=Kd.R_slice HO_6.out
       subst eo18
       try go_wp2
       replace HO_6:=aM (rD HO_6.out)
       replace HO_9:=aM (rD HO_9.out)
       replace BK185:=aM (yD BK185.out)
       replace BK186:=aM (yD BK186.out)
       replace BK187:=aM (yD BK187.out)
       replace HB:=aM (zD HB.out)
       have p196:0 ≤ (x10_1:Int):=of_decide_eq_true (by first|(with_reducible assumption)|assumption)
       have q196:x10_1 < (t188.length:Int):=of_decide_eq_true (by first|(with_reducible assumption)|assumption)
       obtain ⟨ad196,e196,hx196_0,hx196_1⟩:=at_T59 (Kd.R_reads' HO_6.out).2.2 x10_1 p196 q196
       cases e196
       replace p196:=eq_true p196
       replace q196:=eq_true q196
       refine start_ (n:=10) (S:=fun w'=>w'.cell? ⟨gb186,0,none⟩ = some (.int .i64 a1_0) ∧ w'.cell? ⟨gb186,1,none⟩ = some (.int .i64 a1_1) ∧ w'.cell? (ad196.add ((x10_1).toNat * 2)) = some (.int .i64 ((rd_T59 t188 x10_1).f0)) ∧ w'.cell? ⟨(ad196.add ((x10_1).toNat * 2)).block,(ad196.add ((x10_1).toNat * 2)).off + 1,none⟩ = some (.int .i64 ((rd_T59 t188 x10_1).f1))) (ds:=[7,8]) #[fF,fF,fF,fF,fF,fF,fF,fF,fF,fF] (by kernel_rfl) rfl rfl ⟨(blk_cell BK186.out 0).trans rfl,(blk_cell BK186.out 1).trans rfl,hx196_0,hx196_1⟩ (fun hHeld=>?_);refine with_tabW spec_l02Itinerary.tab8 spec_l02Itinerary.bits8 (fun HT_ HW_=>?_)
       generalize wr.drew = w19 at HO_6 HO_9 BK185 BK186 BK187 HB hx196_0 hx196_1 hHeld ⊢
       refine pure_ (i:=0) (N:=some 27) (v:=?_) (a':=?_) #[tT,fF,fF,fF,fF,fF,fF,fF,fF,fF] rfl rfl (any_of HT_.out (by kernel_rfl)) (fun _ _ _ h=>h) (Or.inl ⟨by rfl,?_⟩) ?_ ?_
       rotate_left
       ·intro w'
        go_simp
        with_reducible rfl
       rotate_left
       ·simp only [Act.put,sI,sZ,sS,i64_w,i32_w]
        rfl
       refine pure_ (i:=1) (N:=some 28) (v:=?_) (a':=?_) #[tT,tT,fF,fF,fF,fF,fF,fF,fF,fF] rfl rfl (any_of HT_.out (by kernel_rfl)) (fun _ _ _ h=>h) (Or.inl ⟨by rfl,?_⟩) ?_ ?_
       rotate_left
       ·intro w'
        go_simp
        with_reducible rfl
       rotate_left
       ·simp only [Act.put,sI,sZ,sS,i64_w,i32_w]
        rfl
       refine pure_ (i:=2) (N:=some 29) (v:=?_) (a':=?_) #[tT,tT,tT,fF,fF,fF,fF,fF,fF,fF] rfl rfl (any_of HT_.out (by kernel_rfl)) (fun _ _ _ h=>h) (Or.inl ⟨by rfl,?_⟩) ?_ ?_
       rotate_left
       ·intro w'
        go_simp
        with_reducible rfl
       rotate_left
       ·simp only [Act.put,sI,sZ,sS,i64_w,i32_w]
        rfl
       refine pure_ (i:=3) (N:=some 30) (v:=?_) (a':=?_) #[tT,tT,tT,tT,fF,fF,fF,fF,fF,fF] rfl rfl (any_of HT_.out (by kernel_rfl)) (fun _ _ _ h=>h) (Or.inl ⟨by rfl,?_⟩) ?_ ?_
       rotate_left
       ·intro w'
        go_simp
        with_reducible rfl
       rotate_left
       ·simp only [Act.put,sI,sZ,sS,i64_w,i32_w]
        rfl
       refine take_ (i:=4) (N:=some 31) (v:=?_) (a':=?_) #[tT,tT,tT,tT,tT,fF,fF,fF,fF,fF] rfl rfl (take_ofW HT_.out HW_.out (by kernel_rfl)) (fun _ _ _ h=>h) (Or.inl ⟨by rfl,?_⟩) hHeld ?_ ?_
       rotate_left
       ·rintro w' ⟨s0,s1,s2,s3⟩
        go_simp
        with_reducible rfl
       rotate_left
       ·simp only [Act.put,sI,sZ,sS,i64_w,i32_w]
        rfl
       refine take_ (i:=5) (N:=some 32) (v:=?_) (a':=?_) #[tT,tT,tT,tT,tT,tT,fF,fF,fF,fF] rfl rfl (take_ofW HT_.out HW_.out (by kernel_rfl)) (fun _ _ _ h=>h) (Or.inl ⟨by rfl,?_⟩) hHeld ?_ ?_
       rotate_left
       ·rintro w' ⟨s0,s1,s2,s3⟩
        go_simp
        with_reducible rfl
       rotate_left
       ·simp only [Act.put,sI,sZ,sS,i64_w,i32_w]
        rfl
       refine one_ (i:=6) (N:=some 33) #[tT,tT,tT,tT,tT,tT,tT,fF,fF,fF] rfl rfl (one_of HT_.out (by kernel_rfl)) (by decide) (fun K hK=>?_)
       refine goes_ Try.func46 (by kernel_rfl) rfl #[.agg #[.int .i64 ((rd_T59 t188 x10_1).f0),.int .i64 ((rd_T59 t188 x10_1).f1)],.agg #[.int .i64 a1_0,.int .i64 a1_1]] (by rfl) rfl rfl (by (try simp only [sM,sC,sN]);first|done|rfl|(simp only [List.length_drop,List.length_take];rfl)) ?_
       with_reducible refine (spec_l02Letter.calls k1 ((rd_T59 t188 x10_1).f0) ((rd_T59 t188 x10_1).f1) a1_0 a1_1 t197 _ A16.out).mono ?_
       rintro e w20 ⟨rfl,hb⟩
       have HS2_:=(hb.cell (World.block_lt_of_cell? _ _ (hHeld.2.2.1))).trans (hHeld.2.2.1)
       have HS3_:=(hb.cell (World.block_lt_of_cell? _ _ (hHeld.2.2.2))).trans (hHeld.2.2.2)
       refine ⟨_,rfl,?_⟩
       replace HO_6:=aM (Kd.R_below HO_6.out hb)
       replace HO_9:=aM (Kd.R_below HO_9.out hb)
       replace BK185:=aM (blk_below (g:=gb185) (o:=.cells #[.int .i64 a0_0,.int .i64 a0_1] 59 (0,0)) BK185.out hb)
       replace BK186:=aM (blk_below (g:=gb186) (o:=.cells #[.int .i64 a1_0,.int .i64 a1_1] 59 (0,0)) BK186.out hb)
       replace BK187:=aM (blk_below (g:=gb187) (o:=.cells #[.string ⟨#[]⟩,.string ⟨#[]⟩] 25 (0,0)) BK187.out hb)
       replace HB:=aM (below_step HB.out hb)
       (try clear hb)
       refine hK.out _ _ ⟨(blk_cell BK186.out 0).trans rfl,(blk_cell BK186.out 1).trans rfl,HS2_,HS3_⟩ (fun hHeld=>?_)
       clear hK K
       refine norm_ (a':=?_) ?_ ?_
       rotate_left
       ·show Act.put _ (some 33) _ = _
        simp only [Act.put,sI,sZ,sS,i64_w,i32_w]
        rfl
       refine last_ (i:=7) (N:=some 34) #[tT,tT,tT,tT,tT,tT,tT,tT,fF,fF] rfl rfl (one_of HT_.out (by kernel_rfl)) (by decide) (fun K hK=>?_)
       refine value_ (w1:=?_) (v:=?_) (by rfl) rfl ?_ ?_
       rotate_left 2
       ·go_simp
        constructor
        ·rfl
        ·rfl
       refine hK.out _ _ ?_
       clear hK K
       refine norm_ (a':=?_) ?_ ?_
       rotate_left
       ·show Act.put _ (some 34) _ = _
        simp only [Act.put,sI,sZ,sS,i64_w,i32_w]
        rfl
       refine last_ (i:=8) (N:=some 35) #[tT,tT,tT,tT,tT,tT,tT,tT,tT,fF] rfl rfl (one_of HT_.out (by kernel_rfl)) (by decide) (fun K hK=>?_)
       refine Kd.R_append_step (Kd.int .u8) (w0:=w) w.heap.size (by rfl) (.tmp 27) (.tmp 34) 22 5 (.int .u8 0) 1 rfl Try.underlying22 info5 rfl (by decide) (by omega) u9 x9_1 t197 [.int .u8 t197] (fun _=>True) (fun _=>False) rfl rfl ?aP (fun _ hk=>hk.elim) ?aF ?aO ?aB ?aS ?aL ?_
       (case aP=>exact rfl)
       (case aB=>exact HB.out)
       (case aF=>exact (fun _ _=>trivial))
       (case aO=>exact HO_9.out)
       (case aS=>exact (below_size HB.out))
       (case aL=>have:=LMc17.out;omega)
       intro v199 w21 ho hb hg hat
       rw [← Ny198.out] at ho
       have n0_:=aM (Kd.R_over' HO_6.out (Kd.R_typed HO_9.out) (by decide) hg)
       have n1_:=aM (blk_grown (g:=gb185) (o:=.cells #[.int .i64 a0_0,.int .i64 a0_1] 59 (0,0)) BK185.out hg (Kd.R_ne HO_9.out BK185.out (by decide)))
       have n2_:=aM (blk_grown (g:=gb186) (o:=.cells #[.int .i64 a1_0,.int .i64 a1_1] 59 (0,0)) BK186.out hg (Kd.R_ne HO_9.out BK186.out (by decide)))
       have n3_:=aM (blk_grown (g:=gb187) (o:=.cells #[.string ⟨#[]⟩,.string ⟨#[]⟩] 25 (0,0)) BK187.out hg (Kd.R_ne HO_9.out BK187.out (by decide)))
       have n4_:=aM (hb)
       have n5_:=aM (ho)
       clear HO_6
       clear BK185
       clear BK186
       clear BK187
       clear HB
       clear HO_9
       have HO_6:=n0_
       have BK185:=n1_
       have BK186:=n2_
       have BK187:=n3_
       have HB:=n4_
       have HO200:=n5_
       clear n0_ n1_ n2_ n3_ n4_ n5_
       clear ho hb hg hat
       refine hK.out _ _ ?_
       clear hK K
       refine norm_ (a':=?_) ?_ ?_
       rotate_left
       ·show Act.put _ (some 35) _ = _
        simp only [Act.put,sI,sZ,sS,i64_w,i32_w]
        rfl
       refine pure_ (i:=9) (N:=some 9) (v:=?_) (a':=?_) #[tT,tT,tT,tT,tT,tT,tT,tT,tT,tT] rfl rfl (any_of HT_.out (by kernel_rfl)) (fun _ _ _ h=>h) (Or.inl ⟨by rfl,?_⟩) ?_ ?_
       rotate_left
       ·intro w'
        go_simp
        with_reducible rfl
       rotate_left
       ·simp only [Act.put,sI,sZ,sS,i64_w,i32_w]
        rfl
       refine done_ (done_of HT_.out (by kernel_rfl)) ?_
       try go_wp2
       go_roundg k1
       case measure=>have:=HK1.out;omega
       case rel=>exact ⟨(y198),(wrap64 (x10_1 + 1)),(by first|rfl|(simp;done)|(simp [*];done)),H',⟨by have:=HK1.out;omega⟩,⟨HO_6.out⟩,⟨HO200.out⟩,⟨BK185.out⟩,⟨BK186.out⟩,⟨BK187.out⟩,⟨HB.out⟩⟩
      ·rw [if_neg c17] at H
       exact absurd H (by simp)
     ·rw [if_neg c15] at H
      exact absurd H (by simp)
    ·rw [if_neg c14] at H
     have c14b0:decide (x10_1 < (t188.length:Int)) = false:=decide_eq_false c14
     clear c14
     by_cases c22:0 ≤ t191
     ·rw [if_pos c22] at H
      have c22b0:=eq_true c22
      have c22b1:decide (0 ≤ t191) = true:=decide_eq_true c22
      clear c22
      by_cases c23:t191 ≤ (x9_1.length:Int)
      ·rw [if_pos c23] at H
       have c23b0:=eq_true c23
       have c23b1:decide (t191 ≤ (x9_1.length:Int)) = true:=decide_eq_true c23
       clear c23
       obtain ⟨y201,hy201⟩:∃ y_:List Int,y_ = (x9_1.take (t191:Int).toNat):=⟨_,rfl⟩
       replace H:((spec_l01Canonical.f k1 (strOfNums y201) (strOfNums (x9_1.drop (t191:Int).toNat))).bind fun bt209=>(some (bt209.1,bt209.2,true))) = some (r1,r2,r3):=by first|(rw [hy201];with_reducible exact H)|(have H2_:=(Option.bind_some _ _).symm.trans H;rw [hy201];with_reducible exact H2_)|(have H2_:=(Option.bind_some _ _).symm.trans H;with_reducible exact H2_)|with_reducible exact H|(rw [hy201];exact H)|exact H
       have Ny201:=aM hy201
       clear hy201
       have c24b0:=eq_true (of_decide_eq_true (by first|(with_reducible assumption)|assumption):0 ≤ t191)
       have c25b0:=eq_true (of_decide_eq_true (by first|(with_reducible assumption)|assumption):t191 ≤ (x9_1.length:Int))
       obtain ⟨y205,hy205⟩:∃ y_:List Int,y_ = (x9_1.drop (t191:Int).toNat):=⟨_,rfl⟩
       replace H:((spec_l01Canonical.f k1 (strOfNums y201) (strOfNums y205)).bind fun bt209=>(some (bt209.1,bt209.2,true))) = some (r1,r2,r3):=by first|(rw [hy205];with_reducible exact H)|(have H2_:=(Option.bind_some _ _).symm.trans H;rw [hy205];with_reducible exact H2_)|(have H2_:=(Option.bind_some _ _).symm.trans H;with_reducible exact H2_)|with_reducible exact H|(rw [hy205];exact H)|exact H
       have Ny205:=aM hy205
       clear hy205
       replace H:=Option.bind_eq_some_iff.mp H
       obtain ⟨⟨t209,t210⟩,A260,H⟩:=H
       replace H:(some (t209,t210,true)) = some (r1,r2,r3):=H
       have A26:=aM A260
       clear A260
       simp only [Option.some.injEq,Prod.mk.injEq] at H
       obtain ⟨rfl,rfl,rfl⟩:=H
       obtain ⟨Ao27,co27,eo27⟩:=Kd.R_slice HO_6.out
       subst eo27
       try go_wp2
       replace HO_6:=aM (rD HO_6.out)
       replace HO_9:=aM (rD HO_9.out)
       replace BK185:=aM (yD BK185.out)
       replace BK186:=aM (yD BK186.out)
       replace BK187:=aM (yD BK187.out)
       replace HB:=aM (zD HB.out)
       obtain ⟨Ao30,co30,eo30⟩:=Kd.R_slice HO_9.out
       (first|subst eo30|(injection eo30 with f1_ f2_ f3_;have f4_:=f1_.symm;have f5_:=f3_.symm;clear f1_ f2_ f3_;subst f4_;subst f5_))
       have q29:(t191:Int) ≤ ((x9_1.length:Int):Int):=of_decide_eq_true (by first|(with_reducible assumption)|assumption)
       obtain ⟨i029,hi029,_,hsz29,_⟩:=info_parts info5
       have hroom29:x9_1.length ≤ co30:=(Kd.R_reads' HO_9.out).2.1
       have hC29:Kd.C (Kd.int .u8) _ Ao30 x9_1.length x9_1:=(Kd.R_reads' HO_9.out).2.2
       have hcut29:=cut_to (P:=Try.prog) 22 5 .i64 Try.underlying22 hi029 Ao30 x9_1.length co30 t191 (of_decide_eq_true (by first|(with_reducible assumption)|assumption)) q29 hroom29
       have hr29:=Kd.C_take (m:=(t191:Int).toNat) hC29 (by omega)
       have hy29:y201.length = (t191:Int).toNat:=(by rw [Ny201.out,List.length_take];omega)
       rw [← Ny201.out] at hr29
       rw [← hy29] at hcut29
       have HR204:=aM hr29
       have HC204:=aM (show y201.length ≤ co30 from by omega)
       clear hr29 hC29 hroom29 hi029 hsz29
       have KY29:=aM hy29
       clear hy29
       have KL29:=aM (show (t191:Int).toNat ≤ x9_1.length from by omega)
       replace q29:=eq_true q29
       have q31:(t191:Int) ≤ ((x9_1.length:Int):Int):=of_decide_eq_true (by first|(with_reducible assumption)|assumption)
       obtain ⟨i031,hi031,_,hsz31,_⟩:=info_parts info5
       have hroom31:x9_1.length ≤ co30:=(Kd.R_reads' HO_9.out).2.1
       have hC31:Kd.C (Kd.int .u8) _ Ao30 x9_1.length x9_1:=(Kd.R_reads' HO_9.out).2.2
       have q031:(0:Int) ≤ (t191:Int):=of_decide_eq_true (by first|(with_reducible assumption)|assumption)
       have hcut31:=cut_from (P:=Try.prog) 22 5 .i64 Try.underlying22 hi031 1 hsz31 Ao30 x9_1.length co30 t191 q031 q31
       have hr31:=Kd.C_drop (m:=(t191:Int).toNat) (c:=co30) hC31 (by omega) hroom31
       obtain ⟨A31,hA31⟩:∃ A1,A1 = (if co30 = (t191:Int).toNat then Ao30 else (Ao30:Option Addr).map (·.add ((t191:Int).toNat * 1))):=⟨_,rfl⟩
       obtain ⟨c31,hc31⟩:∃ c1,c1 = co30 - (t191:Int).toNat:=⟨_,rfl⟩
       have hy31:y205.length = x9_1.length - (t191:Int).toNat:=(by rw [Ny205.out,List.length_drop] <;> omega)
       rw [show (x9_1).drop (t191:Int).toNat = y205 from Ny205.out.symm] at hr31
       replace hr31:Kd.C (Kd.int .u8) _ A31 y205.length y205:=(by rw [hA31];exact hr31)
       rw [← hy31,← hA31,← hc31] at hcut31
       have HR208:=aM hr31
       have HC208:=aM (show y205.length ≤ c31 from by rw [hy31,hc31];exact Nat.sub_le_sub_right hroom31 _)
       clear hr31 hC31 hroom31 hi031 hsz31 hc31
       have KY31:=aM hy31
       have KA31:=aM hA31
       clear hy31 hA31
       have KL31:=aM (show (t191:Int).toNat ≤ x9_1.length from by omega)
       replace q31:=eq_true q31
       have hcv32:=Kd.C_string (P:=Try.prog) (A:=Ao30) (c:=co30) Try.underlying22 Try.underlying5 Try.underlying9 (by repeat (first|(with_reducible exact HR204.out)|(with_reducible refine cA ?_ _)|(with_reducible refine cN ?_ _)|(with_reducible refine cD ?_)|exact HR204.out))
       have hcv33:=Kd.C_string (P:=Try.prog) (A:=A31) (c:=c31) Try.underlying22 Try.underlying5 Try.underlying9 (by repeat (first|(with_reducible exact HR208.out)|(with_reducible refine cA ?_ _)|(with_reducible refine cN ?_ _)|(with_reducible refine cD ?_)|exact HR208.out))
       refine start_ (n:=11) (S:=fun w'=>Kd.C (Kd.int .u8) w' Ao30 y201.length y201 ∧ Kd.C (Kd.int .u8) w' A31 y205.length y205) (ds:=[9]) #[fF,fF,fF,fF,fF,fF,fF,fF,fF,fF,fF] (by kernel_rfl) rfl rfl ⟨HR204.out,HR208.out⟩ (fun hHeld=>?_);refine with_tabW spec_l02Itinerary.tab9 spec_l02Itinerary.bits9 (fun HT_ HW_=>?_)
       generalize wr.drew = w28 at HO_6 HO_9 BK185 BK186 BK187 HB HR204 HR208 hHeld ⊢
       refine pure_ (i:=0) (N:=some 36) (v:=?_) (a':=?_) #[tT,fF,fF,fF,fF,fF,fF,fF,fF,fF,fF] rfl rfl (any_of HT_.out (by kernel_rfl)) (fun _ _ _ h=>h) (Or.inl ⟨by rfl,?_⟩) ?_ ?_
       rotate_left
       ·intro w'
        go_simp
        with_reducible rfl
       rotate_left
       ·simp only [Act.put,sI,sZ,sS,i64_w,i32_w]
        rfl
       refine pure_ (i:=1) (N:=some 37) (v:=?_) (a':=?_) #[tT,tT,fF,fF,fF,fF,fF,fF,fF,fF,fF] rfl rfl (any_of HT_.out (by kernel_rfl)) (fun _ _ _ h=>h) (Or.inl ⟨by rfl,?_⟩) ?_ ?_
       rotate_left
       ·intro w'
        go_simp
        with_reducible rfl
       rotate_left
       ·simp only [Act.put,sI,sZ,sS,i64_w,i32_w]
        rfl
       refine pure_ (i:=2) (N:=some 38) (v:=?_) (a':=?_) #[tT,tT,tT,fF,fF,fF,fF,fF,fF,fF,fF] rfl rfl (any_of HT_.out (by kernel_rfl)) (fun _ _ _ h=>h) (Or.inl ⟨by rfl,?_⟩) ?_ ?_
       rotate_left
       ·intro w'
        go_simp
        with_reducible rfl
       rotate_left
       ·simp only [Act.put,sI,sZ,sS,i64_w,i32_w]
        rfl
       refine take_ (i:=3) (N:=some 39) (v:=?_) (a':=?_) #[tT,tT,tT,tT,fF,fF,fF,fF,fF,fF,fF] rfl rfl (take_ofW HT_.out HW_.out (by kernel_rfl)) (fun _ _ _ h=>h) (Or.inl ⟨by rfl,?_⟩) hHeld ?_ ?_
       rotate_left
       ·rintro w' ⟨s0,s1⟩
        have hcv_:=Kd.C_string (P:=Try.prog) (A:=Ao30) (c:=co30) Try.underlying22 Try.underlying5 Try.underlying9 s0
        first|(go_simp;with_reducible rfl)|(go_simp;rw [hcv_];rfl)|(simp only [hcv_];rfl)
       rotate_left
       ·simp only [Act.put,sI,sZ,sS,i64_w,i32_w]
        rfl
       refine pure_ (i:=4) (N:=some 40) (v:=?_) (a':=?_) #[tT,tT,tT,tT,tT,fF,fF,fF,fF,fF,fF] rfl rfl (any_of HT_.out (by kernel_rfl)) (fun _ _ _ h=>h) (Or.inl ⟨by rfl,?_⟩) ?_ ?_
       rotate_left
       ·intro w'
        go_simp
        with_reducible rfl
       rotate_left
       ·simp only [Act.put,sI,sZ,sS,i64_w,i32_w]
        rfl
       refine pure_ (i:=5) (N:=some 41) (v:=?_) (a':=?_) #[tT,tT,tT,tT,tT,tT,fF,fF,fF,fF,fF] rfl rfl (any_of HT_.out (by kernel_rfl)) (fun _ _ _ h=>h) (Or.inl ⟨by rfl,?_⟩) ?_ ?_
       rotate_left
       ·intro w'
        go_simp
        with_reducible rfl
       rotate_left
       ·simp only [Act.put,sI,sZ,sS,i64_w,i32_w]
        rfl
       refine pure_ (i:=6) (N:=some 42) (v:=?_) (a':=?_) #[tT,tT,tT,tT,tT,tT,tT,fF,fF,fF,fF] rfl rfl (any_of HT_.out (by kernel_rfl)) (fun _ _ _ h=>h) (Or.inl ⟨by rfl,?_⟩) ?_ ?_
       rotate_left
       ·intro w'
        go_simp
        with_reducible rfl
       rotate_left
       ·simp only [Act.put,sI,sZ,sS,i64_w,i32_w]
        rfl
       refine take_ (i:=7) (N:=some 43) (v:=?_) (a':=?_) #[tT,tT,tT,tT,tT,tT,tT,tT,fF,fF,fF] rfl rfl (take_ofW HT_.out HW_.out (by kernel_rfl)) (fun _ _ _ h=>h) (Or.inl ⟨by rfl,?_⟩) hHeld ?_ ?_
       rotate_left
       ·rintro w' ⟨s0,s1⟩
        have hcv_:=Kd.C_string (P:=Try.prog) (A:=A31) (c:=c31) Try.underlying22 Try.underlying5 Try.underlying9 s1
        first|(go_simp;with_reducible rfl)|(go_simp;rw [hcv_];rfl)|(simp only [hcv_];rfl)
       rotate_left
       ·simp only [Act.put,sI,sZ,sS,i64_w,i32_w]
        rfl
       refine one_ (i:=8) (N:=some 44) #[tT,tT,tT,tT,tT,tT,tT,tT,tT,fF,fF] rfl rfl (one_of HT_.out (by kernel_rfl)) (by decide) (fun K hK=>?_)
       refine goes_ Try.func35 (by kernel_rfl) rfl #[.string (strOfNums y201),.string (strOfNums y205)] (by rfl) rfl rfl (by (try simp only [sM,sC,sN]);first|done|rfl|(simp only [List.length_drop,List.length_take];rfl)) ?_
       with_reducible refine (spec_l01Canonical.calls k1 (strOfNums y201) (strOfNums y205) t209 t210 _ A26.out).mono ?_
       rintro e w35 ⟨rfl,hb⟩
       refine ⟨_,rfl,?_⟩
       replace HO_6:=aM (Kd.R_below HO_6.out hb)
       replace HO_9:=aM (Kd.R_below HO_9.out hb)
       replace BK185:=aM (blk_below (g:=gb185) (o:=.cells #[.int .i64 a0_0,.int .i64 a0_1] 59 (0,0)) BK185.out hb)
       replace BK186:=aM (blk_below (g:=gb186) (o:=.cells #[.int .i64 a1_0,.int .i64 a1_1] 59 (0,0)) BK186.out hb)
       replace BK187:=aM (blk_below (g:=gb187) (o:=.cells #[.string ⟨#[]⟩,.string ⟨#[]⟩] 25 (0,0)) BK187.out hb)
       replace HB:=aM (below_step HB.out hb)
       have hS_:_ ∧ _:=⟨Kd.C_below HR204.out hb,Kd.C_below HR208.out hb⟩
       (try clear hb)
       refine hK.out _ _ hS_ (fun hHeld=>?_)
       clear hK K
       refine norm_ (a':=?_) ?_ ?_
       rotate_left
       ·show Act.put _ (some 44) _ = _
        simp only [Act.put,sI,sZ,sS,i64_w,i32_w]
        rfl
       refine last_ (i:=9) (N:=none) #[tT,tT,tT,tT,tT,tT,tT,tT,tT,tT,fF] rfl rfl (one_of HT_.out (by kernel_rfl)) (by decide) (fun K hK=>?_)
       have hs36:w35.cell? ⟨gb187,0,none⟩ = some (.string ⟨#[]⟩):=(blk_cell BK187.out 0).trans rfl
       have hfs36:=blk_frozen BK187.out 0
       have hns36_0:=NB185_187.out
       have hns36_1:=NB186_187.out
       have hms36_0:=NB187_185.out
       have hms36_1:=NB187_186.out
       have hs37:w35.cell? ⟨gb187,1,none⟩ = some (.string ⟨#[]⟩):=(blk_cell BK187.out 1).trans rfl
       have hfs37:=blk_frozen BK187.out 1
       have hns37_0:=NB185_187.out
       have hns37_1:=NB186_187.out
       have hms37_0:=NB187_185.out
       have hms37_1:=NB187_186.out
       refine skip_ (w1:=?_) (by rfl) rfl ?_ ?_
       rotate_left
       ·go_simp
        rfl
       refine hK.out _ _ ?_
       clear hK K
       refine pure_ (i:=10) (N:=some 5) (v:=?_) (a':=?_) #[tT,tT,tT,tT,tT,tT,tT,tT,tT,tT,tT] rfl rfl (any_of HT_.out (by kernel_rfl)) (fun _ _ _ h=>h) (Or.inl ⟨by rfl,?_⟩) ?_ ?_
       rotate_left
       ·intro w'
        go_simp
        with_reducible rfl
       rotate_left
       ·simp only [Act.put,sI,sZ,sS,i64_w,i32_w]
        rfl
       refine done_ (done_of HT_.out (by kernel_rfl)) ?_
       try go_wp2
       refine bodyPost_ret (results_ct rfl _ _ gb187 25 #[.string t209,.string t210] (0,0) _ rfl (by (with_reducible repeat (first|apply yN|apply yD|apply yA));refine blk_put (cs:=#[.string t209,.string ⟨#[]⟩]) ?_ 1 _ rfl;(with_reducible repeat (first|apply yN|apply yD|apply yA));refine blk_put (cs:=#[.string ⟨#[]⟩,.string ⟨#[]⟩]) ?_ 0 _ rfl;(with_reducible repeat (first|apply yN|apply yD|apply yA));exact BK187.out) Try.underlying25 rfl (by kernel_rfl)) rfl ?_
       exact ⟨by first|rfl|(simp [errW_none,errW_some] <;> rfl)|(simp [*,errW_none,errW_some] <;> rfl),by repeat (first|(with_reducible first|exact HB.out|apply zA|apply zN|apply zD|refine zS ?_ GE185.out|refine zS ?_ GE186.out|refine zS ?_ GE187.out)|exact HB.out)⟩
      ·rw [if_neg c23] at H
       exact absurd H (by simp)
     ·rw [if_neg c22] at H
      exact absurd H (by simp)
 ·replace c4:=Bool.eq_false_iff.mpr c4
  subst c4
  have H1:(some ((⟨#[]⟩:ByteArray),(⟨#[]⟩:ByteArray),false)) = some (r1,r2,r3):=by rw [if_neg (show ¬ (false = true) by decide)] at H;exact H
  clear H
  have H:=H1
  clear H1
  simp only [Option.some.injEq,Prod.mk.injEq] at H
  obtain ⟨rfl,rfl,rfl⟩:=H
  go_enter Try.func34,Try.ntmps34
  go_wp2_with (first|((with_reducible refine gate_dst (N:=2) rfl ?_);refine box_event ?hg (N:=2) ?hd (cs:=#[.int .i64 a0_0,.int .i64 a0_1]) (t:=59) ?hr ?_;(case hd=>rfl);(case hg=>rfl);(case hr=>first|(go_simp;done)|(go_simp;rfl));intro gb185 hg w38 hbox hb;have n0_:=aM (below_step HB.out hb);have n1_:=aM (hbox);have n2_:=aM ((by rw [hg];exact (below_size HB.out):w.heap.size ≤ gb185));have n3_:=aM ((by rw [hg];exact (below_size HB.out):w.heap.size ≤ gb185));clear HB;have HB:=n0_;have BK185:=n1_;have GW185:=n2_;have GE185:=n3_;clear n0_ n1_ n2_ n3_;clear hb hbox hg)|((with_reducible refine gate_dst (N:=3) rfl ?_);refine box_event ?hg (N:=3) ?hd (cs:=#[.int .i64 a1_0,.int .i64 a1_1]) (t:=59) ?hr ?_;(case hd=>rfl);(case hg=>rfl);(case hr=>first|(go_simp;done)|(go_simp;rfl));intro gb186 hg w39 hbox hb;have n0_:=aM (blk_below (g:=gb185) (o:=.cells #[.int .i64 a0_0,.int .i64 a0_1] 59 (0,0)) BK185.out hb);have n1_:=aM (below_step HB.out hb);have n2_:=aM (hbox);have n3_:=aM ((by rw [hg];exact (below_size HB.out):w.heap.size ≤ gb186));have n4_:=aM ((by rw [hg];exact (below_size HB.out):w.heap.size ≤ gb186));have n5_:=aM ((by rw [hg];exact Nat.ne_of_lt (blk_lt (g:=gb185) (o:=.cells #[.int .i64 a0_0,.int .i64 a0_1] 59 (0,0)) BK185.out):gb185 ≠ gb186));have n6_:=aM ((by rw [hg];exact Nat.ne_of_gt (blk_lt (g:=gb185) (o:=.cells #[.int .i64 a0_0,.int .i64 a0_1] 59 (0,0)) BK185.out):gb186 ≠ gb185));clear BK185;clear HB;have BK185:=n0_;have HB:=n1_;have BK186:=n2_;have GW186:=n3_;have GE186:=n4_;have NB185_186:=n5_;have NB186_185:=n6_;clear n0_ n1_ n2_ n3_ n4_ n5_ n6_;clear hb hbox hg)|((with_reducible refine gate_dst (N:=4) rfl ?_);refine box_event ?hg (N:=4) ?hd (cs:=#[.string ⟨#[]⟩,.string ⟨#[]⟩]) (t:=25) ?hr ?_;(case hd=>rfl);(case hg=>rfl);(case hr=>first|(go_simp;done)|(go_simp;rfl));intro gb187 hg w40 hbox hb;have n0_:=aM (blk_below (g:=gb185) (o:=.cells #[.int .i64 a0_0,.int .i64 a0_1] 59 (0,0)) BK185.out hb);have n1_:=aM (blk_below (g:=gb186) (o:=.cells #[.int .i64 a1_0,.int .i64 a1_1] 59 (0,0)) BK186.out hb);have n2_:=aM (below_step HB.out hb);have n3_:=aM (hbox);have n4_:=aM ((by rw [hg];exact (below_size HB.out):w.heap.size ≤ gb187));have n5_:=aM ((by rw [hg];exact (below_size HB.out):w.heap.size ≤ gb187));have n6_:=aM ((by rw [hg];exact Nat.ne_of_lt (blk_lt (g:=gb185) (o:=.cells #[.int .i64 a0_0,.int .i64 a0_1] 59 (0,0)) BK185.out):gb185 ≠ gb187));have n7_:=aM ((by rw [hg];exact Nat.ne_of_gt (blk_lt (g:=gb185) (o:=.cells #[.int .i64 a0_0,.int .i64 a0_1] 59 (0,0)) BK185.out):gb187 ≠ gb185));have n8_:=aM ((by rw [hg];exact Nat.ne_of_lt (blk_lt (g:=gb186) (o:=.cells #[.int .i64 a1_0,.int .i64 a1_1] 59 (0,0)) BK186.out):gb186 ≠ gb187));have n9_:=aM ((by rw [hg];exact Nat.ne_of_gt (blk_lt (g:=gb186) (o:=.cells #[.int .i64 a1_0,.int .i64 a1_1] 59 (0,0)) BK186.out):gb187 ≠ gb186));clear BK185;clear BK186;clear HB;have BK185:=n0_;have BK186:=n1_;have HB:=n2_;have BK187:=n3_;have GW187:=n4_;have GE187:=n5_;have NB185_187:=n6_;have NB187_185:=n7_;have NB186_187:=n8_;have NB187_186:=n9_;clear n0_ n1_ n2_ n3_ n4_ n5_ n6_ n7_ n8_ n9_;clear hb hbox hg;have hnb41:=NB185_186.out;have hnc41:=NB186_185.out;have hnb42:=NB185_187.out;have hnc42:=NB187_185.out;have hcz43_0:w40.cell? ⟨gb185,0,none⟩ = some (.int .i64 a0_0):=(blk_cell BK185.out 0).trans rfl;have hcz43_1:w40.cell? ⟨gb185,1,none⟩ = some (.int .i64 a0_1):=(blk_cell BK185.out 1).trans rfl;have hfz43_0:=blk_frozen BK185.out 0;have hfz43_1:=blk_frozen BK185.out 1)|((with_reducible refine gate_callee (f:=45) rfl ?_);refine goesL_ (some 13) rfl rfl Try.func45 (by kernel_rfl) rfl #[.agg #[.int .i64 a0_0,.int .i64 a0_1]] rfl (by (try simp only [sM,sC,sN]);first|done|rfl|(simp only [List.length_drop,List.length_take];rfl)) ?_;(with_reducible refine (spec_l01Orbit.calls k a0_0 a0_1 t188 t191 false _ A3.out).mono ?_);rintro e w44 ⟨v189,rfl,ho0,hb⟩;refine ⟨_,rfl,?_⟩;have HO190:=aM (Kd.R_lower (Kd.R_newB (Kd.R_newB ho0 (g:=gb185) (o:=.cells #[.int .i64 a0_0,.int .i64 a0_1] 59 (0,0)) BK185.out) (g:=gb186) (o:=.cells #[.int .i64 a1_0,.int .i64 a1_1] 59 (0,0)) BK186.out) (below_size HB.out));replace BK185:=aM (blk_below (g:=gb185) (o:=.cells #[.int .i64 a0_0,.int .i64 a0_1] 59 (0,0)) BK185.out hb);replace BK186:=aM (blk_below (g:=gb186) (o:=.cells #[.int .i64 a1_0,.int .i64 a1_1] 59 (0,0)) BK186.out hb);replace BK187:=aM (blk_below (g:=gb187) (o:=.cells #[.string ⟨#[]⟩,.string ⟨#[]⟩] 25 (0,0)) BK187.out hb);replace HB:=aM (below_step HB.out hb);(try clear hb);(try clear hb2);(try clear hk);(try clear hi);(try clear ho0);have hnb45:=NB187_186.out;have hnc45:=NB186_187.out;have hcz46_0:w44.cell? ⟨gb187,0,none⟩ = some (.string ⟨#[]⟩):=(blk_cell BK187.out 0).trans rfl;have hcz46_1:w44.cell? ⟨gb187,1,none⟩ = some (.string ⟨#[]⟩):=(blk_cell BK187.out 1).trans rfl;have hfz46_0:=blk_frozen BK187.out 0;have hfz46_1:=blk_frozen BK187.out 1))
  refine bodyPost_ret (results_ct rfl _ _ gb187 25 #[.string ⟨#[]⟩,.string ⟨#[]⟩] (0,0) _ rfl (by (with_reducible repeat (first|apply yN|apply yD|apply yA));refine blk_put (cs:=#[.string ⟨#[]⟩,.string ⟨#[]⟩]) ?_ 1 _ rfl;(with_reducible repeat (first|apply yN|apply yD|apply yA));refine blk_put (cs:=#[.string ⟨#[]⟩,.string ⟨#[]⟩]) ?_ 0 _ rfl;(with_reducible repeat (first|apply yN|apply yD|apply yA));exact BK187.out) Try.underlying25 rfl (by kernel_rfl)) rfl ?_
  exact ⟨by first|rfl|(simp [errW_none,errW_some] <;> rfl)|(simp [*,errW_none,errW_some] <;> rfl),by repeat (first|(with_reducible first|exact HB.out|apply zA|apply zN|apply zD|refine zS ?_ GE185.out|refine zS ?_ GE186.out|refine zS ?_ GE187.out)|exact HB.out)⟩
mutual
def spec_l02Draw.j2:Nat → List Int → Int → Int → ByteArray → ByteArray → Option (ByteArray × ByteArray × Int × Int)
 | 0,_,_,_,_,_=>none
 | k + 1,x1000,x1001,x1002,x213000,x213001=>(spec_l01Next.f x1000 x1001 x1002 40).bind fun bt279=>(if bt279.1 = 0 then (some (x213000,(⟨#[]⟩:ByteArray),bt279.2.1,bt279.2.2)) else (if bt279.1 = 1 then (if x213000.size + x213001.size ≤ 9223372036854775807 then (some (x213000 ++ x213001,x213001,bt279.2.1,bt279.2.2)) else (none)) else (if bt279.1 = 2 then (if x213001.size + x213001.size ≤ 9223372036854775807 then (some (x213000,x213001 ++ x213001,bt279.2.1,bt279.2.2)) else (none)) else (if bt279.1 = 3 then (if 1 + x213001.size ≤ 9223372036854775807 then (some (x213000,(⟨#[50]⟩:ByteArray) ++ x213001,bt279.2.1,bt279.2.2)) else (none)) else (some (x213000,x213001,bt279.2.1,bt279.2.2))))))
def spec_l02Draw.l0:Nat → ByteArray → ByteArray → Int → List Int → Int → Int → Option (ByteArray × ByteArray × Int × Int)
 | 0,_,_,_,_,_,_=>none
 | k + 1,x10,x11,x12,x1000,x1001,x1002=>if x12 > 0 then ((some (([(⟨#[48]⟩:ByteArray),(⟨#[49]⟩:ByteArray),(⟨#[48]⟩:ByteArray),(⟨#[49]⟩:ByteArray),(⟨#[42]⟩:ByteArray)]:List ByteArray):List ByteArray)).bind fun y260=>((spec_l01Next.f x1000 x1001 x1002 5).bind fun bt263=>(if 0 ≤ bt263.1 then (if bt263.1 < (y260.length:Int) then (if x10.size + (rdOf ByteArray.empty y260 bt263.1).size ≤ 9223372036854775807 then (spec_l02Draw.l0 k (x10 ++ (rdOf ByteArray.empty y260 bt263.1)) x11 (wrap64 (x12 - 1)) x1000 bt263.2.1 bt263.2.2) else (none)) else (none)) else (none)))) else ((spec_l01Next.f x1000 x1001 x1002 6).bind fun bt267=>(spec_l02Draw.l1 k x10 x11 bt267.1 x1000 bt267.2.1 bt267.2.2))
def spec_l02Draw.l1:Nat → ByteArray → ByteArray → Int → List Int → Int → Int → Option (ByteArray × ByteArray × Int × Int)
 | 0,_,_,_,_,_,_=>none
 | k + 1,x10,x11,x13,x1000,x1001,x1002=>if x13 > 0 then ((some (([(⟨#[48]⟩:ByteArray),(⟨#[49]⟩:ByteArray),(⟨#[48]⟩:ByteArray),(⟨#[49]⟩:ByteArray),(⟨#[42]⟩:ByteArray)]:List ByteArray):List ByteArray)).bind fun y270=>((spec_l01Next.f x1000 x1001 x1002 5).bind fun bt273=>(if 0 ≤ bt273.1 then (if bt273.1 < (y270.length:Int) then (if x11.size + (rdOf ByteArray.empty y270 bt273.1).size ≤ 9223372036854775807 then (spec_l02Draw.l1 k x10 (x11 ++ (rdOf ByteArray.empty y270 bt273.1)) (wrap64 (x13 - 1)) x1000 bt273.2.1 bt273.2.2) else (none)) else (none)) else (none)))) else ((spec_l01Canonical.f k x10 x11).bind fun bt277=>(spec_l02Draw.j2 k x1000 x1001 x1002 bt277.1 bt277.2))
end
def spec_l02Draw.f (k:Nat) (s0_0:List Int) (s0_1:Int) (s0_2:Int):Option (ByteArray × ByteArray × Int × Int):=(spec_l01Next.f s0_0 s0_1 s0_2 4).bind fun bt213=>(if bt213.1 = 0 then ((spec_l02Star1.f k s0_0 bt213.2.1 bt213.2.2).bind fun bt216=>(spec_l02Draw.j2 k s0_0 bt216.2.2.1 bt216.2.2.2 bt216.1 bt216.2.1)) else (if bt213.1 = 1 then ((spec_l01Draw.f k s0_0 bt213.2.1 bt213.2.2).bind fun bt220=>((spec_l01Draw.f k s0_0 bt220.2.2.1 bt220.2.2.2).bind fun bt225=>((spec_l02Itinerary.f k bt225.1 bt225.2.1 bt220.1 bt220.2.1).bind fun bt229=>(if bt229.2.2 = true then (spec_l02Draw.j2 k s0_0 bt225.2.2.1 bt225.2.2.2 bt229.1 bt229.2.1) else ((spec_l02Star1.f k s0_0 bt225.2.2.1 bt225.2.2.2).bind fun bt233=>(spec_l02Draw.j2 k s0_0 bt233.2.2.1 bt233.2.2.2 bt233.1 bt233.2.1)))))) else (if bt213.1 = 2 then ((spec_l01Draw.f k s0_0 bt213.2.1 bt213.2.2).bind fun bt237=>((spec_l02Itinerary.f k bt237.1 bt237.2.1 bt237.1 bt237.2.1).bind fun bt242=>(if bt242.2.2 = true then (spec_l02Draw.j2 k s0_0 bt237.2.2.1 bt237.2.2.2 bt242.1 bt242.2.1) else ((spec_l02Star1.f k s0_0 bt237.2.2.1 bt237.2.2.2).bind fun bt246=>(spec_l02Draw.j2 k s0_0 bt246.2.2.1 bt246.2.2.2 bt246.1 bt246.2.1))))) else ((some (([(⟨#[48]⟩:ByteArray),(⟨#[49]⟩:ByteArray),(⟨#[42]⟩:ByteArray)]:List ByteArray):List ByteArray)).bind fun y250=>((spec_l01Next.f s0_0 bt213.2.1 bt213.2.2 3).bind fun bt253=>(if 0 ≤ bt253.1 then (if bt253.1 < (y250.length:Int) then ((spec_l01Next.f s0_0 bt253.2.1 bt253.2.2 4).bind fun bt257=>(spec_l02Draw.l0 k (⟨#[]⟩:ByteArray) (rdOf ByteArray.empty y250 bt253.1) bt257.1 s0_0 bt257.2.1 bt257.2.2)) else (none)) else (none)))))))
theorem spec_l02Draw.mono_l:∀ k,(∀ y0 y1 y2 y3 y4,LeO (spec_l02Draw.j2 k y0 y1 y2 y3 y4) (spec_l02Draw.j2 (k + 1) y0 y1 y2 y3 y4)) ∧ (∀ y0 y1 y2 y3 y4 y5,LeO (spec_l02Draw.l0 k y0 y1 y2 y3 y4 y5) (spec_l02Draw.l0 (k + 1) y0 y1 y2 y3 y4 y5)) ∧ (∀ y0 y1 y2 y3 y4 y5,LeO (spec_l02Draw.l1 k y0 y1 y2 y3 y4 y5) (spec_l02Draw.l1 (k + 1) y0 y1 y2 y3 y4 y5))
 | 0=>⟨fun _ _ _ _ _ r h=>by simp [spec_l02Draw.j2] at h,fun _ _ _ _ _ _ r h=>by simp [spec_l02Draw.l0] at h,fun _ _ _ _ _ _ r h=>by simp [spec_l02Draw.l1] at h⟩
 | k + 1=>by
  obtain ⟨ih0,ih1,ih2⟩:=spec_l02Draw.mono_l k
  refine ⟨?_,?_,?_⟩
  ·intro y0 y1 y2 y3 y4
   unfold spec_l02Draw.j2
   repeat' first
   | (with_reducible exact ih0 _ _ _ _ _)
   | (with_reducible exact ih1 _ _ _ _ _ _)
   | (with_reducible exact ih2 _ _ _ _ _ _)
   | (with_reducible exact spec_l01Canonical.mono _ _ _)
   | (with_reducible exact spec_l01Draw.mono _ _ _ _)
   | (with_reducible exact spec_l02Itinerary.mono _ _ _ _ _)
   | (with_reducible exact spec_l02Star1.mono _ _ _ _)
   | (with_reducible exact LeO.refl _)
   | (with_reducible exact LeO.none _)
   | (with_reducible refine LeO.ite ?_ ?_)
   | (with_reducible refine LeO.bind ?_ (fun _=>?_))
   | exact ih0 _ _ _ _ _
   | exact ih1 _ _ _ _ _ _
   | exact ih2 _ _ _ _ _ _
   | exact spec_l01Canonical.mono _ _ _
   | exact spec_l01Draw.mono _ _ _ _
   | exact spec_l02Itinerary.mono _ _ _ _ _
   | exact spec_l02Star1.mono _ _ _ _
   | exact LeO.none _
   | refine LeO.ite ?_ ?_
   | refine LeO.bind ?_ (fun _=>?_)
  ·intro y0 y1 y2 y3 y4 y5
   unfold spec_l02Draw.l0
   repeat' first
   | (with_reducible exact ih0 _ _ _ _ _)
   | (with_reducible exact ih1 _ _ _ _ _ _)
   | (with_reducible exact ih2 _ _ _ _ _ _)
   | (with_reducible exact spec_l01Canonical.mono _ _ _)
   | (with_reducible exact spec_l01Draw.mono _ _ _ _)
   | (with_reducible exact spec_l02Itinerary.mono _ _ _ _ _)
   | (with_reducible exact spec_l02Star1.mono _ _ _ _)
   | (with_reducible exact LeO.refl _)
   | (with_reducible exact LeO.none _)
   | (with_reducible refine LeO.ite ?_ ?_)
   | (with_reducible refine LeO.bind ?_ (fun _=>?_))
   | exact ih0 _ _ _ _ _
   | exact ih1 _ _ _ _ _ _
   | exact ih2 _ _ _ _ _ _
   | exact spec_l01Canonical.mono _ _ _
   | exact spec_l01Draw.mono _ _ _ _
   | exact spec_l02Itinerary.mono _ _ _ _ _
   | exact spec_l02Star1.mono _ _ _ _
   | exact LeO.none _
   | refine LeO.ite ?_ ?_
   | refine LeO.bind ?_ (fun _=>?_)
  ·intro y0 y1 y2 y3 y4 y5
   unfold spec_l02Draw.l1
   repeat' first
   | (with_reducible exact ih0 _ _ _ _ _)
   | (with_reducible exact ih1 _ _ _ _ _ _)
   | (with_reducible exact ih2 _ _ _ _ _ _)
   | (with_reducible exact spec_l01Canonical.mono _ _ _)
   | (with_reducible exact spec_l01Draw.mono _ _ _ _)
   | (with_reducible exact spec_l02Itinerary.mono _ _ _ _ _)
   | (with_reducible exact spec_l02Star1.mono _ _ _ _)
   | (with_reducible exact LeO.refl _)
   | (with_reducible exact LeO.none _)
   | (with_reducible refine LeO.ite ?_ ?_)
   | (with_reducible refine LeO.bind ?_ (fun _=>?_))
   | exact ih0 _ _ _ _ _
   | exact ih1 _ _ _ _ _ _
   | exact ih2 _ _ _ _ _ _
   | exact spec_l01Canonical.mono _ _ _
   | exact spec_l01Draw.mono _ _ _ _
   | exact spec_l02Itinerary.mono _ _ _ _ _
   | exact spec_l02Star1.mono _ _ _ _
   | exact LeO.none _
   | refine LeO.ite ?_ ?_
   | refine LeO.bind ?_ (fun _=>?_)
theorem spec_l02Draw.mono:∀ a0 a1 a2 k,LeO (spec_l02Draw.f k a0 a1 a2) (spec_l02Draw.f (k + 1) a0 a1 a2):=by
 intro a0 a1 a2 k
 obtain ⟨ih0,ih1,ih2⟩:=spec_l02Draw.mono_l k
 unfold spec_l02Draw.f
 repeat' first
   | (with_reducible exact ih0 _ _ _ _ _)
   | (with_reducible exact ih1 _ _ _ _ _ _)
   | (with_reducible exact ih2 _ _ _ _ _ _)
   | (with_reducible exact spec_l01Canonical.mono _ _ _)
   | (with_reducible exact spec_l01Draw.mono _ _ _ _)
   | (with_reducible exact spec_l02Itinerary.mono _ _ _ _ _)
   | (with_reducible exact spec_l02Star1.mono _ _ _ _)
   | (with_reducible exact LeO.refl _)
   | (with_reducible exact LeO.none _)
   | (with_reducible refine LeO.ite ?_ ?_)
   | (with_reducible refine LeO.bind ?_ (fun _=>?_))
   | exact ih0 _ _ _ _ _
   | exact ih1 _ _ _ _ _ _
   | exact ih2 _ _ _ _ _ _
   | exact spec_l01Canonical.mono _ _ _
   | exact spec_l01Draw.mono _ _ _ _
   | exact spec_l02Itinerary.mono _ _ _ _ _
   | exact spec_l02Star1.mono _ _ _ _
   | exact LeO.none _
   | refine LeO.ite ?_ ?_
   | refine LeO.bind ?_ (fun _=>?_)
def spec_l02Draw.T3:Bool × List (List Nat × List Nat):=(true,[([],[]),([],[]),([1],[1]),([0,2],[0,2]),([3],[3]),([2],[]),([4,5,0,1,2,3,4,5],[4])])
def spec_l02Draw.B3:List Nat:=[0,0,2,7,15,6,63]
theorem spec_l02Draw.tab3:rtab .any (opsOf Try.f17 3) = spec_l02Draw.T3:=by kernel_rfl
theorem spec_l02Draw.bits3:waitsOk spec_l02Draw.T3.2 spec_l02Draw.B3 = true:=by kernel_rfl
def spec_l02Draw.T17:Bool × List (List Nat × List Nat):=(true,[([],[]),([0],[0]),([],[]),([1,2,1],[1,2]),([3],[3]),([4],[4]),([4],[4]),([],[]),([7,5,3,0,1,2,3,4,5,7],[5,7]),([6,8,0,1,2,3,4,5,6,7,8],[6])])
def spec_l02Draw.B17:List Nat:=[0,1,0,7,15,31,31,0,191,511]
theorem spec_l02Draw.tab17:rtab .any (opsOf Try.f17 17) = spec_l02Draw.T17:=by kernel_rfl
theorem spec_l02Draw.bits17:waitsOk spec_l02Draw.T17.2 spec_l02Draw.B17 = true:=by kernel_rfl
end Go.Proofs.Ytccinmopfchjlaa.Q
end
