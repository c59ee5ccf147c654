/- Joined texts: Qx26, Qx27, Qx28, Qx29, Qx30, Qx31, Qx32, Qx33, Qx34, Qx35, Qx36, Qx37, Qx38, Qx39, Qx40, Qx41 -/
import Derived.Test.YtccinmopfchjlaaPkFnAddresses22
import Derived.Test.YtccinmopfchjlaaPkFnAddresses24
section
namespace Go.Proofs.Ytccinmopfchjlaa.Q
open Go.Proofs.YtccinmopfchjlaaW.Ext
open Go.RowKit Go.Proofs.YtccinmopfchjlaaW.PrintWords Go.Proofs.YtccinmopfchjlaaW.PrintLast Go.Proofs.YtccinmopfchjlaaW.PrintMore
attribute [local go_sem] max2_int min2_int max_two min_two max_three min_three max_four min_four   -- for this text's walks alone
set_option linter.unusedVariables false
set_option linter.unusedSimpArgs false
def impl_sequence.l0:Nat → ByteArray → ByteArray → Option (ByteArray × ByteArray)
 | 0,_,_=>none
 | k + 1,x0,x1=>if x0.toList = ([]:List UInt8) then (some (x0,x1)) else (if 0 ≤ (wrap64 ((x0.size:Int) - 1)) then (if (wrap64 ((x0.size:Int) - 1)) < (x0.size:Int) then (if 0 ≤ (wrap64 ((x1.size:Int) - 1)) then (if (wrap64 ((x1.size:Int) - 1)) < (x1.size:Int) then (if (bt x0 (wrap64 ((x0.size:Int) - 1))) = (bt x1 (wrap64 ((x1.size:Int) - 1))) then (if (wrap64 ((x0.size:Int) - 1)) ≤ (x0.size:Int) then (if (wrap64 ((x1.size:Int) - 1)) ≤ (x1.size:Int) then (if (x1.extract ((wrap64 ((x1.size:Int) - 1)):Int).toNat x1.size).size + (x1.extract 0 ((wrap64 ((x1.size:Int) - 1)):Int).toNat).size ≤ 9223372036854775807 then (impl_sequence.l0 k (x0.extract 0 ((wrap64 ((x0.size:Int) - 1)):Int).toNat) ((x1.extract ((wrap64 ((x1.size:Int) - 1)):Int).toNat x1.size) ++ (x1.extract 0 ((wrap64 ((x1.size:Int) - 1)):Int).toNat))) else (none)) else (none)) else (none)) else (some (x0,x1))) else (none)) else (none)) else (none)) else (none))
def impl_sequence.f (k:Nat) (a0:ByteArray) (a1:ByteArray):Option (ByteArray × ByteArray):=(impl_root.f k a1).bind fun t305=>(impl_sequence.l0 k a0 t305)
theorem impl_sequence.mono_l:∀ k,(∀ y0 y1,LeO (impl_sequence.l0 k y0 y1) (impl_sequence.l0 (k + 1) y0 y1))
 | 0=>fun _ _ r h=>by simp [impl_sequence.l0] at h
 | k + 1=>by
  have ih0:=impl_sequence.mono_l k
  ·intro y0 y1
   unfold impl_sequence.l0
   repeat' first
   | (with_reducible exact ih0 _ _)
   | (with_reducible exact impl_root.mono _ _)
   | (with_reducible exact LeO.refl _)
   | (with_reducible exact LeO.none _)
   | (with_reducible refine LeO.ite ?_ ?_)
   | (with_reducible refine LeO.bind ?_ (fun _=>?_))
   | exact ih0 _ _
   | exact impl_root.mono _ _
   | exact LeO.none _
   | refine LeO.ite ?_ ?_
   | refine LeO.bind ?_ (fun _=>?_)
theorem impl_sequence.mono:∀ a0 a1 k,LeO (impl_sequence.f k a0 a1) (impl_sequence.f (k + 1) a0 a1):=by
 intro a0 a1 k
 have ih0:=impl_sequence.mono_l k
 unfold impl_sequence.f
 repeat' first
   | (with_reducible exact ih0 _ _)
   | (with_reducible exact impl_root.mono _ _)
   | (with_reducible exact LeO.refl _)
   | (with_reducible exact LeO.none _)
   | (with_reducible refine LeO.ite ?_ ?_)
   | (with_reducible refine LeO.bind ?_ (fun _=>?_))
   | exact ih0 _ _
   | exact impl_root.mono _ _
   | exact LeO.none _
   | refine LeO.ite ?_ ?_
   | refine LeO.bind ?_ (fun _=>?_)
set_option maxHeartbeats 8000000 in
set_option maxRecDepth 100000 in
theorem impl_sequence.calls (k:Nat) (a0:ByteArray) (a1:ByteArray) (r1:ByteArray) (r2:ByteArray) (w:World) (h:impl_sequence.f k a0 a1 = some (r1,r2)) :
  Calls Try.prog 51 #[.string a0,.string a1] w fun e w'=>e = .returned (.agg #[.string r1,.string r2]) ∧ Below w.heap.size w w':=by
 have hu25:=Try.underlying25
 have HB:=aM (Below.refl w.heap.size w)
 have H:((impl_root.f k a1).bind fun t305=>(impl_sequence.l0 k a0 t305)) = some (r1,r2):=h
 clear h
 replace H:=Option.bind_eq_some_iff.mp H
 obtain ⟨t305,A30,H⟩:=H
 replace H:(impl_sequence.l0 k a0 t305) = some (r1,r2):=H
 have A3:=aM A30
 clear A30
 have H':=aM H
 clear H
 go_enter Try.func51,Try.ntmps51
 go_wp2_with (first|((with_reducible refine gate_dst (N:=4) rfl ?_);(try (refine gate_guard (by rfl) ?_;dsimp only));refine box_event ?hg (N:=4) ?hd (cs:=#[.string ⟨#[]⟩,.string ⟨#[]⟩]) (t:=25) ?hr ?_;(case hd=>rfl);(case hg=>rfl);(case hr=>first|(go_simp;done)|(go_simp;rfl));intro gb304 hg w4 hbox hb;have n0_:=aM (below_step (by repeat (first|(with_reducible first|exact HB.out|apply zA|apply zN|apply zD)|exact HB.out)) hb);have n1_:=aM (hbox);have n2_:=aM ((by rw [hg];exact (below_size (by repeat (first|(with_reducible first|exact HB.out|apply zA|apply zN|apply zD)|exact HB.out))):w.heap.size ≤ gb304));have n3_:=aM ((by rw [hg];exact (below_size (by repeat (first|(with_reducible first|exact HB.out|apply zA|apply zN|apply zD)|exact HB.out))):w.heap.size ≤ gb304));clear HB;have HB:=n0_;have BK304:=n1_;have GW304:=n2_;have GE304:=n3_;clear n0_ n1_ n2_ n3_;clear hb hbox hg)|(go_at_call 64;(with_reducible refine (impl_root.calls k a1 t305 _ A3.out).mono ?_);rintro e w5 ⟨rfl,hb⟩;replace BK304:=aM (blk_below (g:=gb304) (o:=.cells #[.string ⟨#[]⟩,.string ⟨#[]⟩] 25 (0,0)) (by (with_reducible repeat (first|apply yN|apply yD|apply yA));exact BK304.out) hb);replace HB:=aM (below_step (by repeat (first|(with_reducible first|exact HB.out|apply zA|apply zN|apply zD|refine zS ?_ GE304.out)|exact HB.out)) hb);(try clear hb);(try clear hb2);(try clear hk);(try clear hi)))
 repeat (go_quiet (first|((with_reducible refine gate_dst (N:=4) rfl ?_);(try (refine gate_guard (by rfl) ?_;dsimp only));refine box_event ?hg (N:=4) ?hd (cs:=#[.string ⟨#[]⟩,.string ⟨#[]⟩]) (t:=25) ?hr ?_;(case hd=>rfl);(case hg=>rfl);(case hr=>first|(go_simp;done)|(go_simp;rfl));intro gb304 hg w4 hbox hb;have n0_:=aM (below_step (by repeat (first|(with_reducible first|exact HB.out|apply zA|apply zN|apply zD)|exact HB.out)) hb);have n1_:=aM (hbox);have n2_:=aM ((by rw [hg];exact (below_size (by repeat (first|(with_reducible first|exact HB.out|apply zA|apply zN|apply zD)|exact HB.out))):w.heap.size ≤ gb304));have n3_:=aM ((by rw [hg];exact (below_size (by repeat (first|(with_reducible first|exact HB.out|apply zA|apply zN|apply zD)|exact HB.out))):w.heap.size ≤ gb304));clear HB;have HB:=n0_;have BK304:=n1_;have GW304:=n2_;have GE304:=n3_;clear n0_ n1_ n2_ n3_;clear hb hbox hg)|(go_at_call 64;(with_reducible refine (impl_root.calls k a1 t305 _ A3.out).mono ?_);rintro e w5 ⟨rfl,hb⟩;replace BK304:=aM (blk_below (g:=gb304) (o:=.cells #[.string ⟨#[]⟩,.string ⟨#[]⟩] 25 (0,0)) (by (with_reducible repeat (first|apply yN|apply yD|apply yA));exact BK304.out) hb);replace HB:=aM (below_step (by repeat (first|(with_reducible first|exact HB.out|apply zA|apply zN|apply zD|refine zS ?_ GE304.out)|exact HB.out)) hb);(try clear hb);(try clear hb2);(try clear hk);(try clear hi)));try go_wp2_with (first|((with_reducible refine gate_dst (N:=4) rfl ?_);(try (refine gate_guard (by rfl) ?_;dsimp only));refine box_event ?hg (N:=4) ?hd (cs:=#[.string ⟨#[]⟩,.string ⟨#[]⟩]) (t:=25) ?hr ?_;(case hd=>rfl);(case hg=>rfl);(case hr=>first|(go_simp;done)|(go_simp;rfl));intro gb304 hg w4 hbox hb;have n0_:=aM (below_step (by repeat (first|(with_reducible first|exact HB.out|apply zA|apply zN|apply zD)|exact HB.out)) hb);have n1_:=aM (hbox);have n2_:=aM ((by rw [hg];exact (below_size (by repeat (first|(with_reducible first|exact HB.out|apply zA|apply zN|apply zD)|exact HB.out))):w.heap.size ≤ gb304));have n3_:=aM ((by rw [hg];exact (below_size (by repeat (first|(with_reducible first|exact HB.out|apply zA|apply zN|apply zD)|exact HB.out))):w.heap.size ≤ gb304));clear HB;have HB:=n0_;have BK304:=n1_;have GW304:=n2_;have GE304:=n3_;clear n0_ n1_ n2_ n3_;clear hb hbox hg)|(go_at_call 64;(with_reducible refine (impl_root.calls k a1 t305 _ A3.out).mono ?_);rintro e w5 ⟨rfl,hb⟩;replace BK304:=aM (blk_below (g:=gb304) (o:=.cells #[.string ⟨#[]⟩,.string ⟨#[]⟩] 25 (0,0)) (by (with_reducible repeat (first|apply yN|apply yD|apply yA));exact BK304.out) hb);replace HB:=aM (below_step (by repeat (first|(with_reducible first|exact HB.out|apply zA|apply zN|apply zD|refine zS ?_ GE304.out)|exact HB.out)) hb);(try clear hb);(try clear hb2);(try clear hk);(try clear hi))))
 go_loopg [0,1] k (fun kq v0 v1 w'=>∃ (x0_1:ByteArray) (x1_1:ByteArray),v0 = .string x0_1 ∧ v1 = .string x1_1 ∧ Aside0 (impl_sequence.l0 kq x0_1 x1_1 = some (r1,r2)) ∧ Aside0 (kq ≤ k) ∧ Aside0 (w'.heap[gb304]? = some (.cells #[.string ⟨#[]⟩,.string ⟨#[]⟩] 25 (0,0))) ∧ Aside0 (Below w.heap.size w w'))
 case atStart=>exact ⟨(a0),(t305),(by first|rfl|(simp;done)|(simp [*];done)),(by first|rfl|(simp;done)|(simp [*];done)),H',⟨Nat.le_refl _⟩,⟨by (with_reducible repeat (first|apply yN|apply yD|apply yA));exact BK304.out⟩,⟨by repeat (first|(with_reducible first|exact HB.out|apply zA|apply zN|apply zD|refine zS ?_ GE304.out)|exact HB.out)⟩⟩
 case round =>
  clear H'
  try clear p2
  try clear c5
  obtain ⟨x0_1,x1_1,rfl,rfl,HA,HK1,BK304,HB⟩:=hrel
  cases gk with
  | zero=>exact absurd HA.out (by simp [impl_sequence.l0])
  | succ k1 =>
   have H:=HA.out
   clear HA
   simp only [impl_sequence.l0] at H
   by_cases c6:x0_1.toList = ([]:List UInt8)
   ·rw [if_pos c6] at H
    have c6b0:(x0_1.toList == ([]:List UInt8)) = true:=beq_iff_eq.mpr c6
    have c6b1:(x0_1.toList != ([]:List UInt8)) = false:=bne_eq_false_iff_eq.mpr c6
    clear c6
    simp only [Option.some.injEq,Prod.mk.injEq] at H
    obtain ⟨rfl,rfl⟩:=H
    have hcz7_0:wr.cell? ⟨gb304,0,none⟩ = some (.string ⟨#[]⟩):=(blk_cell BK304.out 0).trans rfl
    have hcz7_1:wr.cell? ⟨gb304,1,none⟩ = some (.string ⟨#[]⟩):=(blk_cell BK304.out 1).trans rfl
    have hfz7_0:=blk_frozen BK304.out 0
    have hfz7_1:=blk_frozen BK304.out 1
    go_wp2
    repeat (go_quiet (fail);try go_wp2)
    refine bodyPost_ret (results_cell_row rfl _ _ gb304 25 #[.string x0_1,.string x1_1] (0,0) _ rfl (by (with_reducible repeat (first|apply yN|apply yD|apply yA));refine blk_put (cs:=#[.string x0_1,.string ⟨#[]⟩]) ?_ 1 _ rfl;(with_reducible repeat (first|apply yN|apply yD|apply yA));refine blk_put (cs:=#[.string ⟨#[]⟩,.string ⟨#[]⟩]) ?_ 0 _ rfl;(with_reducible repeat (first|apply yN|apply yD|apply yA));exact BK304.out) Try.underlying25 rfl (by kernel_rfl)) rfl ?_
    exact ⟨by first|rfl|(simp [errW_none,errW_some] <;> rfl)|(simp [*,errW_none,errW_some] <;> rfl),by repeat (first|(with_reducible first|exact HB.out|apply zA|apply zN|apply zD|refine zS ?_ GE304.out)|exact HB.out)⟩
   ·rw [if_neg c6] at H
    have c6b0:(x0_1.toList == ([]:List UInt8)) = false:=beq_eq_false_iff_ne.mpr c6
    have c6b1:(x0_1.toList != ([]:List UInt8)) = true:=bne_iff_ne.mpr c6
    obtain ⟨ji8,hji8⟩:∃ j_:Int,(wrap64 ((x0_1.size:Int) - 1)) = j_:=⟨_,rfl⟩
    replace H:(if 0 ≤ (ji8) then (if (ji8) < (x0_1.size:Int) then (if 0 ≤ (wrap64 ((x1_1.size:Int) - 1)) then (if (wrap64 ((x1_1.size:Int) - 1)) < (x1_1.size:Int) then (if (bt x0_1 (ji8)) = (bt x1_1 (wrap64 ((x1_1.size:Int) - 1))) then (if (ji8) ≤ (x0_1.size:Int) then (if (wrap64 ((x1_1.size:Int) - 1)) ≤ (x1_1.size:Int) then (if (x1_1.extract ((wrap64 ((x1_1.size:Int) - 1)):Int).toNat x1_1.size).size + (x1_1.extract 0 ((wrap64 ((x1_1.size:Int) - 1)):Int).toNat).size ≤ 9223372036854775807 then (impl_sequence.l0 k1 (x0_1.extract 0 ((ji8):Int).toNat) ((x1_1.extract ((wrap64 ((x1_1.size:Int) - 1)):Int).toNat x1_1.size) ++ (x1_1.extract 0 ((wrap64 ((x1_1.size:Int) - 1)):Int).toNat))) else (none)) else (none)) else (none)) else (some (x0_1,x1_1))) else (none)) else (none)) else (none)) else (none)) = some (r1,r2):=by first|(rw [hji8] at H;exact H)|(simp only [hji8] at H ⊢;exact H)
    have hji8w:(IntKind.i64.wrap ((x0_1.size:Int) - 1)) = ji8:=(i64_w _).trans hji8
    by_cases c9:0 ≤ (ji8)
    ·rw [if_pos c9] at H
     have c9b0:decide (0 ≤ (ji8)) = true:=decide_eq_true c9
     clear c9
     by_cases c10:(ji8) < (x0_1.size:Int)
     ·rw [if_pos c10] at H
      have c10b0:decide ((ji8) < (x0_1.size:Int)) = true:=decide_eq_true c10
      clear c10
      obtain ⟨ji12,hji12⟩:∃ j_:Int,(wrap64 ((x1_1.size:Int) - 1)) = j_:=⟨_,rfl⟩
      replace H:(if 0 ≤ (ji12) then (if (ji12) < (x1_1.size:Int) then (if (bt x0_1 (ji8)) = (bt x1_1 (ji12)) then (if (ji8) ≤ (x0_1.size:Int) then (if (ji12) ≤ (x1_1.size:Int) then (if (x1_1.extract ((ji12):Int).toNat x1_1.size).size + (x1_1.extract 0 ((ji12):Int).toNat).size ≤ 9223372036854775807 then (impl_sequence.l0 k1 (x0_1.extract 0 ((ji8):Int).toNat) ((x1_1.extract ((ji12):Int).toNat x1_1.size) ++ (x1_1.extract 0 ((ji12):Int).toNat))) else (none)) else (none)) else (none)) else (some (x0_1,x1_1))) else (none)) else (none)) = some (r1,r2):=by first|(rw [hji12] at H;exact H)|(simp only [hji12] at H ⊢;exact H)
      have hji12w:(IntKind.i64.wrap ((x1_1.size:Int) - 1)) = ji12:=(i64_w _).trans hji12
      by_cases c13:0 ≤ (ji12)
      ·rw [if_pos c13] at H
       have c13b0:decide (0 ≤ (ji12)) = true:=decide_eq_true c13
       clear c13
       by_cases c14:(ji12) < (x1_1.size:Int)
       ·rw [if_pos c14] at H
        have c14b0:decide ((ji12) < (x1_1.size:Int)) = true:=decide_eq_true c14
        clear c14
        by_cases c16:(bt x0_1 (ji8)) = (bt x1_1 (ji12))
        ·rw [if_pos c16] at H
         have c16b0:((bt x0_1 (ji8)) == (bt x1_1 (ji12))) = true:=beq_iff_eq.mpr c16
         have c16b1:((bt x0_1 (ji8)) != (bt x1_1 (ji12))) = false:=bne_eq_false_iff_eq.mpr c16
         clear c16
         have c17b0:=eq_true (of_decide_eq_true (by first|(with_reducible assumption)|assumption):0 ≤ (ji8))
         by_cases c18:(ji8) ≤ (x0_1.size:Int)
         ·rw [if_pos c18] at H
          have c18b0:=eq_true c18
          have c18b1:decide ((ji8) ≤ (x0_1.size:Int)) = true:=decide_eq_true c18
          clear c18
          have c19b0:=eq_true (of_decide_eq_true (by first|(with_reducible assumption)|assumption):0 ≤ (ji12))
          by_cases c20:(ji12) ≤ (x1_1.size:Int)
          ·rw [if_pos c20] at H
           have c20b0:=eq_true c20
           have c20b1:decide ((ji12) ≤ (x1_1.size:Int)) = true:=decide_eq_true c20
           clear c20
           have c21b0:=eq_true (of_decide_eq_true (by first|(with_reducible assumption)|assumption):0 ≤ (ji12))
           have c22b0:=eq_true (of_decide_eq_true (by first|(with_reducible assumption)|assumption):(ji12) ≤ (x1_1.size:Int))
           by_cases c23:(x1_1.extract ((ji12):Int).toNat x1_1.size).size + (x1_1.extract 0 ((ji12):Int).toNat).size ≤ 9223372036854775807
           ·rw [if_pos c23] at H
            have c23b0:=eq_true c23
            have c23b1:decide ((x1_1.extract ((ji12):Int).toNat x1_1.size).size + (x1_1.extract 0 ((ji12):Int).toNat).size ≤ 9223372036854775807) = true:=decide_eq_true c23
            try have c23b2:(9223372036854775807 < (x1_1.extract ((ji12):Int).toNat x1_1.size).size + (x1_1.extract 0 ((ji12):Int).toNat).size) = False:=eq_false (Nat.not_lt.2 c23)
            try (have c23b3:=c23;simp at c23b3;have c23b4:=eq_false (Nat.not_lt.2 c23b3))
            have H':=aM H
            clear H
            have p11:0 ≤ ((ji8):Int):=of_decide_eq_true (by first|(with_reducible assumption)|assumption)
            have q11:(ji8) < (x0_1.size:Int):=of_decide_eq_true (by first|(with_reducible assumption)|assumption)
            have hx11:=bt_at x0_1 (ji8)
            replace p11:=eq_true p11
            replace q11:=eq_true q11
            have p15:0 ≤ ((ji12):Int):=of_decide_eq_true (by first|(with_reducible assumption)|assumption)
            have q15:(ji12) < (x1_1.size:Int):=of_decide_eq_true (by first|(with_reducible assumption)|assumption)
            have hx15:=bt_at x1_1 (ji12)
            replace p15:=eq_true p15
            replace q15:=eq_true q15
            go_wp2
            repeat (go_quiet (fail);try go_wp2)
            go_roundg k1
            case measure=>have:=HK1.out;omega
            case rel=>exact ⟨(x0_1.extract 0 ((ji8):Int).toNat),((x1_1.extract ((ji12):Int).toNat x1_1.size) ++ (x1_1.extract 0 ((ji12):Int).toNat)),(by first|rfl|(simp;done)|(simp only [← hji8] <;> (first|rfl|simp))|(simp [*];done)),(by first|rfl|(simp;done)|(simp only [← hji12] <;> (first|rfl|simp))|(simp [*];done)),H',⟨by have:=HK1.out;omega⟩,⟨by (with_reducible repeat (first|apply yN|apply yD|apply yA));exact BK304.out⟩,⟨by repeat (first|(with_reducible first|exact HB.out|apply zA|apply zN|apply zD|refine zS ?_ GE304.out)|exact HB.out)⟩⟩
           ·rw [if_neg c23] at H
            exact absurd H (by simp)
          ·rw [if_neg c20] at H
           exact absurd H (by simp)
         ·rw [if_neg c18] at H
          exact absurd H (by simp)
        ·rw [if_neg c16] at H
         have c16b0:((bt x0_1 (ji8)) == (bt x1_1 (ji12))) = false:=beq_eq_false_iff_ne.mpr c16
         have c16b1:((bt x0_1 (ji8)) != (bt x1_1 (ji12))) = true:=bne_iff_ne.mpr c16
         simp only [Option.some.injEq,Prod.mk.injEq] at H
         obtain ⟨rfl,rfl⟩:=H
         have p11:0 ≤ ((ji8):Int):=of_decide_eq_true (by first|(with_reducible assumption)|assumption)
         have q11:(ji8) < (x0_1.size:Int):=of_decide_eq_true (by first|(with_reducible assumption)|assumption)
         have hx11:=bt_at x0_1 (ji8)
         replace p11:=eq_true p11
         replace q11:=eq_true q11
         have p15:0 ≤ ((ji12):Int):=of_decide_eq_true (by first|(with_reducible assumption)|assumption)
         have q15:(ji12) < (x1_1.size:Int):=of_decide_eq_true (by first|(with_reducible assumption)|assumption)
         have hx15:=bt_at x1_1 (ji12)
         replace p15:=eq_true p15
         replace q15:=eq_true q15
         have hcz24_0:wr.cell? ⟨gb304,0,none⟩ = some (.string ⟨#[]⟩):=(blk_cell BK304.out 0).trans rfl
         have hcz24_1:wr.cell? ⟨gb304,1,none⟩ = some (.string ⟨#[]⟩):=(blk_cell BK304.out 1).trans rfl
         have hfz24_0:=blk_frozen BK304.out 0
         have hfz24_1:=blk_frozen BK304.out 1
         go_wp2
         repeat (go_quiet (fail);try go_wp2)
         refine bodyPost_ret (results_cell_row rfl _ _ gb304 25 #[.string x0_1,.string x1_1] (0,0) _ rfl (by (with_reducible repeat (first|apply yN|apply yD|apply yA));refine blk_put (cs:=#[.string x0_1,.string ⟨#[]⟩]) ?_ 1 _ rfl;(with_reducible repeat (first|apply yN|apply yD|apply yA));refine blk_put (cs:=#[.string ⟨#[]⟩,.string ⟨#[]⟩]) ?_ 0 _ rfl;(with_reducible repeat (first|apply yN|apply yD|apply yA));exact BK304.out) Try.underlying25 rfl (by kernel_rfl)) rfl ?_
         exact ⟨by first|rfl|(simp [errW_none,errW_some] <;> rfl)|(simp only [← hji8,← hji12];first|rfl|(simp [errW_none,errW_some] <;> rfl))|(simp [*,errW_none,errW_some] <;> rfl),by repeat (first|(with_reducible first|exact HB.out|apply zA|apply zN|apply zD|refine zS ?_ GE304.out)|exact HB.out)⟩
       ·rw [if_neg c14] at H
        exact absurd H (by simp)
      ·rw [if_neg c13] at H
       exact absurd H (by simp)
     ·rw [if_neg c10] at H
      exact absurd H (by simp)
    ·rw [if_neg c9] at H
     exact absurd H (by simp)
end Go.Proofs.Ytccinmopfchjlaa.Q
end
section
namespace Go.Proofs.Ytccinmopfchjlaa.Q
open Go.Proofs.YtccinmopfchjlaaW.Ext
open Go.RowKit Go.Proofs.YtccinmopfchjlaaW.PrintWords Go.Proofs.YtccinmopfchjlaaW.PrintLast Go.Proofs.YtccinmopfchjlaaW.PrintMore
attribute [local go_sem] max2_int min2_int max_two min_two max_three min_three max_four min_four   -- for this text's walks alone
set_option linter.unusedVariables false
set_option linter.unusedSimpArgs false
attribute [local go_sem high] eqA25
def impl_IsSequence.f (k:Nat) (a0_0:ByteArray) (a0_1:ByteArray):Option (Bool):=if a0_0.size + a0_1.size ≤ 9223372036854775807 then ((impl_areLetters.f (a0_0 ++ a0_1)).bind fun t307=>(if t307 = true then ((impl_areGiven.f a0_0 a0_1).bind fun t308=>(if t308 = true then ((impl_sequence.f k a0_0 a0_1).bind fun bt309=>(some (bt309.1.toList == a0_0.toList && (bt309.2.toList == a0_1.toList)))) else (some false))) else (some false))) else (none)
theorem impl_IsSequence.mono:∀ a0 a1 k,LeO (impl_IsSequence.f k a0 a1) (impl_IsSequence.f (k + 1) a0 a1):=by
 intro a0 a1 k
 unfold impl_IsSequence.f
 repeat' first
   | (with_reducible exact impl_sequence.mono _ _ _)
   | (with_reducible exact LeO.refl _)
   | (with_reducible exact LeO.none _)
   | (with_reducible refine LeO.ite ?_ ?_)
   | (with_reducible refine LeO.bind ?_ (fun _=>?_))
   | exact impl_sequence.mono _ _ _
   | exact LeO.none _
   | refine LeO.ite ?_ ?_
   | refine LeO.bind ?_ (fun _=>?_)
def impl_IsSequence.T1:Bool × List (List Nat × List Nat):=(true,[([],[]),([0],[0]),([],[]),([2],[2]),([1,3],[1,3]),([4],[4]),([5,5],[5]),([6],[6]),([7,6],[6,7]),([6],[6]),([9,6],[6,9]),([8,10,6,6],[6,8,10]),([6,11],[6,11]),([12,11],[12]),([13],[13]),([14,13],[13,14]),([13],[13]),([16,13],[13,16]),([15,17,13,13],[13,15,17]),([13],[13]),([18,19,13],[13,18,19]),([13,20],[13,20]),([21,18,0,1,2,3,4,5,6,7,8,9,10,11,12,13,14,15,16,17,18,19,20,21],[21])])
def impl_IsSequence.B1:List Nat:=[0,1,0,4,15,31,63,127,255,127,639,2047,4095,8191,16383,32767,16383,81919,262143,16383,1048575,2097151,4194303]
theorem impl_IsSequence.tab1:rtab .any (opsOf Try.f37 1) = impl_IsSequence.T1:=by kernel_rfl
theorem impl_IsSequence.bits1:waitsOk impl_IsSequence.T1.2 impl_IsSequence.B1 = true:=by kernel_rfl
set_option maxHeartbeats 8000000 in
set_option maxRecDepth 100000 in
theorem impl_IsSequence.calls (k:Nat) (a0_0:ByteArray) (a0_1:ByteArray) (r:Bool) (w:World) (h:impl_IsSequence.f k a0_0 a0_1 = some r) :
  Calls Try.prog 37 #[.agg #[.string a0_0,.string a0_1]] w fun e w'=>e = .returned (.bool r) ∧ Below w.heap.size w w':=by
 have hu25:=Try.underlying25
 have HB:=aM (Below.refl w.heap.size w)
 have H:(if a0_0.size + a0_1.size ≤ 9223372036854775807 then ((impl_areLetters.f (a0_0 ++ a0_1)).bind fun t307=>(if t307 = true then ((impl_areGiven.f a0_0 a0_1).bind fun t308=>(if t308 = true then ((impl_sequence.f k a0_0 a0_1).bind fun bt309=>(some (bt309.1.toList == a0_0.toList && (bt309.2.toList == a0_1.toList)))) else (some false))) else (some false))) else (none)) = some r:=h
 clear h
 by_cases c2:a0_0.size + a0_1.size ≤ 9223372036854775807
 ·rw [if_pos c2] at H
  have c2b0:=eq_true c2
  have c2b1:decide (a0_0.size + a0_1.size ≤ 9223372036854775807) = true:=decide_eq_true c2
  try have c2b2:(9223372036854775807 < a0_0.size + a0_1.size) = False:=eq_false (Nat.not_lt.2 c2)
  replace H:=Option.bind_eq_some_iff.mp H
  obtain ⟨t307,A30,H⟩:=H
  replace H:(if t307 = true then ((impl_areGiven.f a0_0 a0_1).bind fun t308=>(if t308 = true then ((impl_sequence.f k a0_0 a0_1).bind fun bt309=>(some (bt309.1.toList == a0_0.toList && (bt309.2.toList == a0_1.toList)))) else (some false))) else (some false)) = some r:=H
  have A3:=aM A30
  clear A30
  by_cases c4:t307 = true
  ·subst c4
   have H1:((impl_areGiven.f a0_0 a0_1).bind fun t308=>(if t308 = true then ((impl_sequence.f k a0_0 a0_1).bind fun bt309=>(some (bt309.1.toList == a0_0.toList && (bt309.2.toList == a0_1.toList)))) else (some false))) = some r:=by rw [if_pos rfl] at H;exact H
   clear H
   have H:=H1
   clear H1
   replace H:=Option.bind_eq_some_iff.mp H
   obtain ⟨t308,A50,H⟩:=H
   replace H:(if t308 = true then ((impl_sequence.f k a0_0 a0_1).bind fun bt309=>(some (bt309.1.toList == a0_0.toList && (bt309.2.toList == a0_1.toList)))) else (some false)) = some r:=H
   have A5:=aM A50
   clear A50
   by_cases c6:t308 = true
   ·subst c6
    have H1:((impl_sequence.f k a0_0 a0_1).bind fun bt309=>(some (bt309.1.toList == a0_0.toList && (bt309.2.toList == a0_1.toList)))) = some r:=by rw [if_pos rfl] at H;exact H
    clear H
    have H:=H1
    clear H1
    replace H:=Option.bind_eq_some_iff.mp H
    obtain ⟨⟨t309,t310⟩,A70,H⟩:=H
    replace H:(some (t309.toList == a0_0.toList && (t310.toList == a0_1.toList))) = some r:=H
    have A7:=aM A70
    clear A70
    obtain rfl:=Option.some.inj H
    go_enter Try.func37,Try.ntmps37
    try go_wp2_with (first|((with_reducible refine gate_dst (N:=1) rfl ?_);refine box_event ?hg (N:=1) ?hd (cs:=#[.string a0_0,.string a0_1]) (t:=25) ?hr ?_;(case hd=>rfl);(case hg=>rfl);(case hr=>first|(go_simp;done)|(go_simp;rfl));intro gb306 hg w8 hbox hb;have n0_:=aM (below_step HB.out hb);have n1_:=aM (hbox);have n2_:=aM ((by rw [hg];exact (below_size HB.out):w.heap.size ≤ gb306));have n3_:=aM ((by rw [hg];exact (below_size HB.out):w.heap.size ≤ gb306));clear HB;have HB:=n0_;have BK306:=n1_;have GW306:=n2_;have GE306:=n3_;clear n0_ n1_ n2_ n3_;clear hb hbox hg))
    replace BK306:=aM (yD BK306.out)
    replace HB:=aM (zD HB.out)
    refine start_ (n:=23) (S:=fun w'=>w'.cell? ⟨gb306,0,none⟩ = some (.string a0_0) ∧ w'.cell? ⟨gb306,1,none⟩ = some (.string a0_1)) (ds:=[]) #[fF,fF,fF,fF,fF,fF,fF,fF,fF,fF,fF,fF,fF,fF,fF,fF,fF,fF,fF,fF,fF,fF,fF] (by kernel_rfl) rfl rfl ⟨(blk_cell BK306.out 0).trans rfl,(blk_cell BK306.out 1).trans rfl⟩ (fun hHeld=>?_);refine with_tabW impl_IsSequence.tab1 impl_IsSequence.bits1 (fun HT_ HW_=>?_)
    generalize w8.drew = w9 at BK306 HB hHeld ⊢
    refine pure_ (i:=0) (N:=some 3) (v:=?_) (a':=?_) #[tT,fF,fF,fF,fF,fF,fF,fF,fF,fF,fF,fF,fF,fF,fF,fF,fF,fF,fF,fF,fF,fF,fF] rfl rfl (any_of HT_.out (by kernel_rfl)) (fun _ _ _ h=>h) (Or.inl ⟨by rfl,?_⟩) ?_ ?_
    rotate_left
    ·intro w'
     go_simp
     with_reducible rfl
    rotate_left
    ·simp only [Act.put,sI,sZ,sS,i64_w,i32_w]
     rfl
    refine pure_ (i:=2) (N:=some 5) (v:=?_) (a':=?_) #[tT,fF,tT,fF,fF,fF,fF,fF,fF,fF,fF,fF,fF,fF,fF,fF,fF,fF,fF,fF,fF,fF,fF] rfl rfl (any_of HT_.out (by kernel_rfl)) (fun _ _ _ h=>h) (Or.inl ⟨by rfl,?_⟩) ?_ ?_
    rotate_left
    ·intro w'
     go_simp
     with_reducible rfl
    rotate_left
    ·simp only [Act.put,sI,sZ,sS,i64_w,i32_w]
     rfl
    refine take_ (i:=1) (N:=some 4) (v:=?_) (a':=?_) #[tT,tT,tT,fF,fF,fF,fF,fF,fF,fF,fF,fF,fF,fF,fF,fF,fF,fF,fF,fF,fF,fF,fF] rfl rfl (take_ofW HT_.out HW_.out (by kernel_rfl)) (fun _ _ _ h=>h) (Or.inl ⟨by rfl,?_⟩) hHeld ?_ ?_
    rotate_left
    ·rintro w' ⟨s0,s1⟩
     go_simp
     with_reducible rfl
    rotate_left
    ·simp only [Act.put,sI,sZ,sS,i64_w,i32_w]
     rfl
    refine take_ (i:=3) (N:=some 6) (v:=?_) (a':=?_) #[tT,tT,tT,tT,fF,fF,fF,fF,fF,fF,fF,fF,fF,fF,fF,fF,fF,fF,fF,fF,fF,fF,fF] rfl rfl (take_ofW HT_.out HW_.out (by kernel_rfl)) (fun _ _ _ h=>h) (Or.inl ⟨by rfl,?_⟩) hHeld ?_ ?_
    rotate_left
    ·rintro w' ⟨s0,s1⟩
     go_simp
     with_reducible rfl
    rotate_left
    ·simp only [Act.put,sI,sZ,sS,i64_w,i32_w]
     rfl
    refine pure_ (i:=4) (N:=some 7) (v:=?_) (a':=?_) #[tT,tT,tT,tT,tT,fF,fF,fF,fF,fF,fF,fF,fF,fF,fF,fF,fF,fF,fF,fF,fF,fF,fF] rfl rfl (any_of HT_.out (by kernel_rfl)) (fun _ _ _ h=>h) (Or.inl ⟨by rfl,?_⟩) ?_ ?_
    rotate_left
    ·intro w'
     go_simp
     with_reducible rfl
    rotate_left
    ·simp only [Act.put,sI,sZ,sS,i64_w,i32_w]
     rfl
    refine one_ (i:=5) (N:=some 8) #[tT,tT,tT,tT,tT,tT,fF,fF,fF,fF,fF,fF,fF,fF,fF,fF,fF,fF,fF,fF,fF,fF,fF] rfl rfl (one_of HT_.out (by kernel_rfl)) (by decide) (fun K hK=>?_)
    refine goes_ Try.func49 (by kernel_rfl) rfl #[.string (a0_0 ++ a0_1)] (by rfl) rfl rfl (by (try simp only [sM,sC,sN]);first|done|rfl|(simp only [List.length_drop,List.length_take];rfl)) ?_
    with_reducible refine (impl_areLetters.calls (a0_0 ++ a0_1) true _ A3.out).mono ?_
    rintro e w10 ⟨rfl,hb⟩
    refine ⟨_,rfl,?_⟩
    replace BK306:=aM (blk_below (g:=gb306) (o:=.cells #[.string a0_0,.string a0_1] 25 (0,0)) BK306.out hb)
    replace HB:=aM (below_step HB.out hb)
    (try clear hb)
    refine hK.out _ _ ⟨(blk_cell BK306.out 0).trans rfl,(blk_cell BK306.out 1).trans rfl⟩ (fun hHeld=>?_)
    clear hK K
    refine norm_ (a':=?_) ?_ ?_
    rotate_left
    ·show Act.put _ (some 8) _ = _
     simp only [Act.put,sI,sZ,sS,i64_w,i32_w]
     rfl
    refine pure_ (i:=6) (N:=some 9) (v:=?_) (a':=?_) #[tT,tT,tT,tT,tT,tT,tT,fF,fF,fF,fF,fF,fF,fF,fF,fF,fF,fF,fF,fF,fF,fF,fF] rfl rfl (any_of HT_.out (by kernel_rfl)) (fun _ _ _ h=>h) (Or.inl ⟨by rfl,?_⟩) ?_ ?_
    rotate_left
    ·intro w'
     go_simp
     with_reducible rfl
    rotate_left
    ·simp only [Act.put,sI,sZ,sS,i64_w,i32_w]
     rfl
    refine pure_ (i:=7) (N:=some 10) (v:=?_) (a':=?_) #[tT,tT,tT,tT,tT,tT,tT,tT,fF,fF,fF,fF,fF,fF,fF,fF,fF,fF,fF,fF,fF,fF,fF] rfl rfl (any_of HT_.out (by kernel_rfl)) (fun _ _ _ h=>h) (Or.inl ⟨by rfl,?_⟩) ?_ ?_
    rotate_left
    ·intro w'
     go_simp
     with_reducible rfl
    rotate_left
    ·simp only [Act.put,sI,sZ,sS,i64_w,i32_w]
     rfl
    refine pure_ (i:=9) (N:=some 12) (v:=?_) (a':=?_) #[tT,tT,tT,tT,tT,tT,tT,tT,fF,tT,fF,fF,fF,fF,fF,fF,fF,fF,fF,fF,fF,fF,fF] rfl rfl (any_of HT_.out (by kernel_rfl)) (fun _ _ _ h=>h) (Or.inl ⟨by rfl,?_⟩) ?_ ?_
    rotate_left
    ·intro w'
     go_simp
     with_reducible rfl
    rotate_left
    ·simp only [Act.put,sI,sZ,sS,i64_w,i32_w]
     rfl
    refine take_ (i:=8) (N:=some 11) (v:=?_) (a':=?_) #[tT,tT,tT,tT,tT,tT,tT,tT,tT,tT,fF,fF,fF,fF,fF,fF,fF,fF,fF,fF,fF,fF,fF] rfl rfl (take_ofW HT_.out HW_.out (by kernel_rfl)) (fun _ _ _ h=>h) (Or.inl ⟨by rfl,?_⟩) hHeld ?_ ?_
    rotate_left
    ·rintro w' ⟨s0,s1⟩
     go_simp
     with_reducible rfl
    rotate_left
    ·simp only [Act.put,sI,sZ,sS,i64_w,i32_w]
     rfl
    refine take_ (i:=10) (N:=some 13) (v:=?_) (a':=?_) #[tT,tT,tT,tT,tT,tT,tT,tT,tT,tT,tT,fF,fF,fF,fF,fF,fF,fF,fF,fF,fF,fF,fF] rfl rfl (take_ofW HT_.out HW_.out (by kernel_rfl)) (fun _ _ _ h=>h) (Or.inl ⟨by rfl,?_⟩) hHeld ?_ ?_
    rotate_left
    ·rintro w' ⟨s0,s1⟩
     go_simp
     with_reducible rfl
    rotate_left
    ·simp only [Act.put,sI,sZ,sS,i64_w,i32_w]
     rfl
    refine one_ (i:=11) (N:=some 14) #[tT,tT,tT,tT,tT,tT,tT,tT,tT,tT,tT,tT,fF,fF,fF,fF,fF,fF,fF,fF,fF,fF,fF] rfl rfl (one_of HT_.out (by kernel_rfl)) (by decide) (fun K hK=>?_)
    refine goes_ Try.func50 (by kernel_rfl) rfl #[.string a0_0,.string a0_1] (by rfl) rfl rfl (by (try simp only [sM,sC,sN]);first|done|rfl|(simp only [List.length_drop,List.length_take];rfl)) ?_
    with_reducible refine (impl_areGiven.calls a0_0 a0_1 true _ A5.out).mono ?_
    rintro e w' ⟨rfl,⟨nd,rfl⟩⟩
    refine ⟨_,rfl,?_⟩
    refine hK.out _ _ ⟨(blk_cell BK306.out 0).trans rfl,(blk_cell BK306.out 1).trans rfl⟩ (fun hHeld=>?_)
    clear hK K
    refine norm_ (a':=?_) ?_ ?_
    rotate_left
    ·show Act.put _ (some 14) _ = _
     simp only [Act.put,sI,sZ,sS,i64_w,i32_w]
     rfl
    refine pure_ (i:=12) (N:=some 15) (v:=?_) (a':=?_) #[tT,tT,tT,tT,tT,tT,tT,tT,tT,tT,tT,tT,tT,fF,fF,fF,fF,fF,fF,fF,fF,fF,fF] rfl rfl (any_of HT_.out (by kernel_rfl)) (fun _ _ _ h=>h) (Or.inl ⟨by rfl,?_⟩) ?_ ?_
    rotate_left
    ·intro w'
     go_simp
     with_reducible rfl
    rotate_left
    ·simp only [Act.put,sI,sZ,sS,i64_w,i32_w]
     rfl
    refine pure_ (i:=13) (N:=some 16) (v:=?_) (a':=?_) #[tT,tT,tT,tT,tT,tT,tT,tT,tT,tT,tT,tT,tT,tT,fF,fF,fF,fF,fF,fF,fF,fF,fF] rfl rfl (any_of HT_.out (by kernel_rfl)) (fun _ _ _ h=>h) (Or.inl ⟨by rfl,?_⟩) ?_ ?_
    rotate_left
    ·intro w'
     go_simp
     with_reducible rfl
    rotate_left
    ·simp only [Act.put,sI,sZ,sS,i64_w,i32_w]
     rfl
    refine pure_ (i:=14) (N:=some 17) (v:=?_) (a':=?_) #[tT,tT,tT,tT,tT,tT,tT,tT,tT,tT,tT,tT,tT,tT,tT,fF,fF,fF,fF,fF,fF,fF,fF] rfl rfl (any_of HT_.out (by kernel_rfl)) (fun _ _ _ h=>h) (Or.inl ⟨by rfl,?_⟩) ?_ ?_
    rotate_left
    ·intro w'
     go_simp
     with_reducible rfl
    rotate_left
    ·simp only [Act.put,sI,sZ,sS,i64_w,i32_w]
     rfl
    refine pure_ (i:=16) (N:=some 19) (v:=?_) (a':=?_) #[tT,tT,tT,tT,tT,tT,tT,tT,tT,tT,tT,tT,tT,tT,tT,fF,tT,fF,fF,fF,fF,fF,fF] rfl rfl (any_of HT_.out (by kernel_rfl)) (fun _ _ _ h=>h) (Or.inl ⟨by rfl,?_⟩) ?_ ?_
    rotate_left
    ·intro w'
     go_simp
     with_reducible rfl
    rotate_left
    ·simp only [Act.put,sI,sZ,sS,i64_w,i32_w]
     rfl
    refine take_ (i:=15) (N:=some 18) (v:=?_) (a':=?_) #[tT,tT,tT,tT,tT,tT,tT,tT,tT,tT,tT,tT,tT,tT,tT,tT,tT,fF,fF,fF,fF,fF,fF] rfl rfl (take_ofW HT_.out HW_.out (by kernel_rfl)) (fun _ _ _ h=>h) (Or.inl ⟨by rfl,?_⟩) hHeld ?_ ?_
    rotate_left
    ·rintro w' ⟨s0,s1⟩
     go_simp
     with_reducible rfl
    rotate_left
    ·simp only [Act.put,sI,sZ,sS,i64_w,i32_w]
     rfl
    refine take_ (i:=17) (N:=some 20) (v:=?_) (a':=?_) #[tT,tT,tT,tT,tT,tT,tT,tT,tT,tT,tT,tT,tT,tT,tT,tT,tT,tT,fF,fF,fF,fF,fF] rfl rfl (take_ofW HT_.out HW_.out (by kernel_rfl)) (fun _ _ _ h=>h) (Or.inl ⟨by rfl,?_⟩) hHeld ?_ ?_
    rotate_left
    ·rintro w' ⟨s0,s1⟩
     go_simp
     with_reducible rfl
    rotate_left
    ·simp only [Act.put,sI,sZ,sS,i64_w,i32_w]
     rfl
    refine take_ (i:=19) (N:=some 22) (v:=?_) (a':=?_) #[tT,tT,tT,tT,tT,tT,tT,tT,tT,tT,tT,tT,tT,tT,tT,tT,tT,tT,fF,tT,fF,fF,fF] rfl rfl (take_ofW HT_.out HW_.out (by kernel_rfl)) (fun _ _ _ h=>h) (Or.inl ⟨by rfl,?_⟩) hHeld ?_ ?_
    rotate_left
    ·rintro w' ⟨s0,s1⟩
     go_simp
     with_reducible rfl
    rotate_left
    ·simp only [Act.put,sI,sZ,sS,i64_w,i32_w]
     rfl
    refine one_ (i:=18) (N:=some 21) #[tT,tT,tT,tT,tT,tT,tT,tT,tT,tT,tT,tT,tT,tT,tT,tT,tT,tT,tT,tT,fF,fF,fF] rfl rfl (one_of HT_.out (by kernel_rfl)) (by decide) (fun K hK=>?_)
    refine goes_ Try.func51 (by kernel_rfl) rfl #[.string a0_0,.string a0_1] (by rfl) rfl rfl (by (try simp only [sM,sC,sN]);first|done|rfl|(simp only [List.length_drop,List.length_take];rfl)) ?_
    with_reducible refine (impl_sequence.calls k a0_0 a0_1 t309 t310 _ A7.out).mono ?_
    rintro e w11 ⟨rfl,hb⟩
    refine ⟨_,rfl,?_⟩
    replace BK306:=aM (blk_below (g:=gb306) (o:=.cells #[.string a0_0,.string a0_1] 25 (0,0)) (by (with_reducible repeat (first|apply yN|apply yD|apply yA));exact BK306.out) hb)
    replace HB:=aM (below_step (by repeat (first|(with_reducible first|exact HB.out|apply zA|apply zN|apply zD|refine zS ?_ GE306.out)|exact HB.out)) hb)
    (try clear hb)
    refine hK.out _ _ ⟨(blk_cell BK306.out 0).trans rfl,(blk_cell BK306.out 1).trans rfl⟩ (fun hHeld=>?_)
    clear hK K
    refine norm_ (a':=?_) ?_ ?_
    rotate_left
    ·show Act.put _ (some 21) _ = _
     simp only [Act.put,sI,sZ,sS,i64_w,i32_w]
     rfl
    refine pure_ (i:=20) (N:=some 23) (v:=?_) (a':=?_) #[tT,tT,tT,tT,tT,tT,tT,tT,tT,tT,tT,tT,tT,tT,tT,tT,tT,tT,tT,tT,tT,fF,fF] rfl rfl (any_of HT_.out (by kernel_rfl)) (fun _ _ _ h=>h) (Or.inl ⟨by rfl,?_⟩) ?_ ?_
    rotate_left
    ·intro w'
     go_simp
     with_reducible rfl
    rotate_left
    ·simp only [Act.put,sI,sZ,sS,i64_w,i32_w]
     rfl
    refine pure_ (i:=21) (N:=some 24) (v:=?_) (a':=?_) #[tT,tT,tT,tT,tT,tT,tT,tT,tT,tT,tT,tT,tT,tT,tT,tT,tT,tT,tT,tT,tT,tT,fF] rfl rfl (any_of HT_.out (by kernel_rfl)) (fun _ _ _ h=>h) (Or.inl ⟨by rfl,?_⟩) ?_ ?_
    rotate_left
    ·intro w'
     go_simp
     with_reducible rfl
    rotate_left
    ·simp only [Act.put,sI,sZ,sS,i64_w,i32_w]
     rfl
    refine pure_ (i:=22) (N:=some 2) (v:=?_) (a':=?_) #[tT,tT,tT,tT,tT,tT,tT,tT,tT,tT,tT,tT,tT,tT,tT,tT,tT,tT,tT,tT,tT,tT,tT] rfl rfl (any_of HT_.out (by kernel_rfl)) (fun _ _ _ h=>h) (Or.inl ⟨by rfl,?_⟩) ?_ ?_
    rotate_left
    ·intro w'
     go_simp
     with_reducible rfl
    rotate_left
    ·simp only [Act.put,sI,sZ,sS,i64_w,i32_w]
     rfl
    refine done_ (done_of HT_.out (by kernel_rfl)) ?_
    try go_wp2
    go_ret
    exact ⟨by first|rfl|(simp [errW_none,errW_some] <;> rfl)|(simp [*,errW_none,errW_some] <;> rfl),HB.out⟩
   ·replace c6:=Bool.eq_false_iff.mpr c6
    subst c6
    have H1:(some false) = some r:=by rw [if_neg (show ¬ (false = true) by decide)] at H;exact H
    clear H
    have H:=H1
    clear H1
    obtain rfl:=Option.some.inj H
    go_enter Try.func37,Try.ntmps37
    try go_wp2_with (first|((with_reducible refine gate_dst (N:=1) rfl ?_);refine box_event ?hg (N:=1) ?hd (cs:=#[.string a0_0,.string a0_1]) (t:=25) ?hr ?_;(case hd=>rfl);(case hg=>rfl);(case hr=>first|(go_simp;done)|(go_simp;rfl));intro gb306 hg w12 hbox hb;have n0_:=aM (below_step HB.out hb);have n1_:=aM (hbox);have n2_:=aM ((by rw [hg];exact (below_size HB.out):w.heap.size ≤ gb306));have n3_:=aM ((by rw [hg];exact (below_size HB.out):w.heap.size ≤ gb306));clear HB;have HB:=n0_;have BK306:=n1_;have GW306:=n2_;have GE306:=n3_;clear n0_ n1_ n2_ n3_;clear hb hbox hg))
    replace BK306:=aM (yD BK306.out)
    replace HB:=aM (zD HB.out)
    refine start_ (n:=23) (S:=fun w'=>w'.cell? ⟨gb306,0,none⟩ = some (.string a0_0) ∧ w'.cell? ⟨gb306,1,none⟩ = some (.string a0_1)) (ds:=[]) #[fF,fF,fF,fF,fF,fF,fF,fF,fF,fF,fF,fF,fF,fF,fF,fF,fF,fF,fF,fF,fF,fF,fF] (by kernel_rfl) rfl rfl ⟨(blk_cell BK306.out 0).trans rfl,(blk_cell BK306.out 1).trans rfl⟩ (fun hHeld=>?_);refine with_tabW impl_IsSequence.tab1 impl_IsSequence.bits1 (fun HT_ HW_=>?_)
    generalize w12.drew = w13 at BK306 HB hHeld ⊢
    refine pure_ (i:=0) (N:=some 3) (v:=?_) (a':=?_) #[tT,fF,fF,fF,fF,fF,fF,fF,fF,fF,fF,fF,fF,fF,fF,fF,fF,fF,fF,fF,fF,fF,fF] rfl rfl (any_of HT_.out (by kernel_rfl)) (fun _ _ _ h=>h) (Or.inl ⟨by rfl,?_⟩) ?_ ?_
    rotate_left
    ·intro w'
     go_simp
     with_reducible rfl
    rotate_left
    ·simp only [Act.put,sI,sZ,sS,i64_w,i32_w]
     rfl
    refine pure_ (i:=2) (N:=some 5) (v:=?_) (a':=?_) #[tT,fF,tT,fF,fF,fF,fF,fF,fF,fF,fF,fF,fF,fF,fF,fF,fF,fF,fF,fF,fF,fF,fF] rfl rfl (any_of HT_.out (by kernel_rfl)) (fun _ _ _ h=>h) (Or.inl ⟨by rfl,?_⟩) ?_ ?_
    rotate_left
    ·intro w'
     go_simp
     with_reducible rfl
    rotate_left
    ·simp only [Act.put,sI,sZ,sS,i64_w,i32_w]
     rfl
    refine take_ (i:=1) (N:=some 4) (v:=?_) (a':=?_) #[tT,tT,tT,fF,fF,fF,fF,fF,fF,fF,fF,fF,fF,fF,fF,fF,fF,fF,fF,fF,fF,fF,fF] rfl rfl (take_ofW HT_.out HW_.out (by kernel_rfl)) (fun _ _ _ h=>h) (Or.inl ⟨by rfl,?_⟩) hHeld ?_ ?_
    rotate_left
    ·rintro w' ⟨s0,s1⟩
     go_simp
     with_reducible rfl
    rotate_left
    ·simp only [Act.put,sI,sZ,sS,i64_w,i32_w]
     rfl
    refine take_ (i:=3) (N:=some 6) (v:=?_) (a':=?_) #[tT,tT,tT,tT,fF,fF,fF,fF,fF,fF,fF,fF,fF,fF,fF,fF,fF,fF,fF,fF,fF,fF,fF] rfl rfl (take_ofW HT_.out HW_.out (by kernel_rfl)) (fun _ _ _ h=>h) (Or.inl ⟨by rfl,?_⟩) hHeld ?_ ?_
    rotate_left
    ·rintro w' ⟨s0,s1⟩
     go_simp
     with_reducible rfl
    rotate_left
    ·simp only [Act.put,sI,sZ,sS,i64_w,i32_w]
     rfl
    refine pure_ (i:=4) (N:=some 7) (v:=?_) (a':=?_) #[tT,tT,tT,tT,tT,fF,fF,fF,fF,fF,fF,fF,fF,fF,fF,fF,fF,fF,fF,fF,fF,fF,fF] rfl rfl (any_of HT_.out (by kernel_rfl)) (fun _ _ _ h=>h) (Or.inl ⟨by rfl,?_⟩) ?_ ?_
    rotate_left
    ·intro w'
     go_simp
     with_reducible rfl
    rotate_left
    ·simp only [Act.put,sI,sZ,sS,i64_w,i32_w]
     rfl
    refine one_ (i:=5) (N:=some 8) #[tT,tT,tT,tT,tT,tT,fF,fF,fF,fF,fF,fF,fF,fF,fF,fF,fF,fF,fF,fF,fF,fF,fF] rfl rfl (one_of HT_.out (by kernel_rfl)) (by decide) (fun K hK=>?_)
    refine goes_ Try.func49 (by kernel_rfl) rfl #[.string (a0_0 ++ a0_1)] (by rfl) rfl rfl (by (try simp only [sM,sC,sN]);first|done|rfl|(simp only [List.length_drop,List.length_take];rfl)) ?_
    with_reducible refine (impl_areLetters.calls (a0_0 ++ a0_1) true _ A3.out).mono ?_
    rintro e w14 ⟨rfl,hb⟩
    refine ⟨_,rfl,?_⟩
    replace BK306:=aM (blk_below (g:=gb306) (o:=.cells #[.string a0_0,.string a0_1] 25 (0,0)) BK306.out hb)
    replace HB:=aM (below_step HB.out hb)
    (try clear hb)
    refine hK.out _ _ ⟨(blk_cell BK306.out 0).trans rfl,(blk_cell BK306.out 1).trans rfl⟩ (fun hHeld=>?_)
    clear hK K
    refine norm_ (a':=?_) ?_ ?_
    rotate_left
    ·show Act.put _ (some 8) _ = _
     simp only [Act.put,sI,sZ,sS,i64_w,i32_w]
     rfl
    refine pure_ (i:=6) (N:=some 9) (v:=?_) (a':=?_) #[tT,tT,tT,tT,tT,tT,tT,fF,fF,fF,fF,fF,fF,fF,fF,fF,fF,fF,fF,fF,fF,fF,fF] rfl rfl (any_of HT_.out (by kernel_rfl)) (fun _ _ _ h=>h) (Or.inl ⟨by rfl,?_⟩) ?_ ?_
    rotate_left
    ·intro w'
     go_simp
     with_reducible rfl
    rotate_left
    ·simp only [Act.put,sI,sZ,sS,i64_w,i32_w]
     rfl
    refine pure_ (i:=7) (N:=some 10) (v:=?_) (a':=?_) #[tT,tT,tT,tT,tT,tT,tT,tT,fF,fF,fF,fF,fF,fF,fF,fF,fF,fF,fF,fF,fF,fF,fF] rfl rfl (any_of HT_.out (by kernel_rfl)) (fun _ _ _ h=>h) (Or.inl ⟨by rfl,?_⟩) ?_ ?_
    rotate_left
    ·intro w'
     go_simp
     with_reducible rfl
    rotate_left
    ·simp only [Act.put,sI,sZ,sS,i64_w,i32_w]
     rfl
    refine pure_ (i:=9) (N:=some 12) (v:=?_) (a':=?_) #[tT,tT,tT,tT,tT,tT,tT,tT,fF,tT,fF,fF,fF,fF,fF,fF,fF,fF,fF,fF,fF,fF,fF] rfl rfl (any_of HT_.out (by kernel_rfl)) (fun _ _ _ h=>h) (Or.inl ⟨by rfl,?_⟩) ?_ ?_
    rotate_left
    ·intro w'
     go_simp
     with_reducible rfl
    rotate_left
    ·simp only [Act.put,sI,sZ,sS,i64_w,i32_w]
     rfl
    refine take_ (i:=8) (N:=some 11) (v:=?_) (a':=?_) #[tT,tT,tT,tT,tT,tT,tT,tT,tT,tT,fF,fF,fF,fF,fF,fF,fF,fF,fF,fF,fF,fF,fF] rfl rfl (take_ofW HT_.out HW_.out (by kernel_rfl)) (fun _ _ _ h=>h) (Or.inl ⟨by rfl,?_⟩) hHeld ?_ ?_
    rotate_left
    ·rintro w' ⟨s0,s1⟩
     go_simp
     with_reducible rfl
    rotate_left
    ·simp only [Act.put,sI,sZ,sS,i64_w,i32_w]
     rfl
    refine take_ (i:=10) (N:=some 13) (v:=?_) (a':=?_) #[tT,tT,tT,tT,tT,tT,tT,tT,tT,tT,tT,fF,fF,fF,fF,fF,fF,fF,fF,fF,fF,fF,fF] rfl rfl (take_ofW HT_.out HW_.out (by kernel_rfl)) (fun _ _ _ h=>h) (Or.inl ⟨by rfl,?_⟩) hHeld ?_ ?_
    rotate_left
    ·rintro w' ⟨s0,s1⟩
     go_simp
     with_reducible rfl
    rotate_left
    ·simp only [Act.put,sI,sZ,sS,i64_w,i32_w]
     rfl
    refine one_ (i:=11) (N:=some 14) #[tT,tT,tT,tT,tT,tT,tT,tT,tT,tT,tT,tT,fF,fF,fF,fF,fF,fF,fF,fF,fF,fF,fF] rfl rfl (one_of HT_.out (by kernel_rfl)) (by decide) (fun K hK=>?_)
    refine goes_ Try.func50 (by kernel_rfl) rfl #[.string a0_0,.string a0_1] (by rfl) rfl rfl (by (try simp only [sM,sC,sN]);first|done|rfl|(simp only [List.length_drop,List.length_take];rfl)) ?_
    with_reducible refine (impl_areGiven.calls a0_0 a0_1 false _ A5.out).mono ?_
    rintro e w' ⟨rfl,⟨nd,rfl⟩⟩
    refine ⟨_,rfl,?_⟩
    refine hK.out _ _ ⟨(blk_cell BK306.out 0).trans rfl,(blk_cell BK306.out 1).trans rfl⟩ (fun hHeld=>?_)
    clear hK K
    refine norm_ (a':=?_) ?_ ?_
    rotate_left
    ·show Act.put _ (some 14) _ = _
     simp only [Act.put,sI,sZ,sS,i64_w,i32_w]
     rfl
    refine pure_ (i:=12) (N:=some 15) (v:=?_) (a':=?_) #[tT,tT,tT,tT,tT,tT,tT,tT,tT,tT,tT,tT,tT,fF,fF,fF,fF,fF,fF,fF,fF,fF,fF] rfl rfl (any_of HT_.out (by kernel_rfl)) (fun _ _ _ h=>h) (Or.inl ⟨by rfl,?_⟩) ?_ ?_
    rotate_left
    ·intro w'
     go_simp
     with_reducible rfl
    rotate_left
    ·simp only [Act.put,sI,sZ,sS,i64_w,i32_w]
     rfl
    refine pure_ (i:=13) (N:=some 16) (v:=?_) (a':=?_) #[tT,tT,tT,tT,tT,tT,tT,tT,tT,tT,tT,tT,tT,tT,fF,fF,fF,fF,fF,fF,fF,fF,fF] rfl rfl (any_of HT_.out (by kernel_rfl)) (fun _ _ _ h=>h) (Or.inl ⟨by rfl,?_⟩) ?_ ?_
    rotate_left
    ·intro w'
     go_simp
     with_reducible rfl
    rotate_left
    ·simp only [Act.put,sI,sZ,sS,i64_w,i32_w]
     rfl
    refine pure_ (i:=14) (N:=some 17) (v:=undef) (a':=?_) #[tT,tT,tT,tT,tT,tT,tT,tT,tT,tT,tT,tT,tT,tT,tT,fF,fF,fF,fF,fF,fF,fF,fF] rfl rfl (any_of HT_.out (by kernel_rfl)) (fun _ _ _ h=>h) (Or.inr ⟨by rfl,rfl⟩) ?_ ?_
    rotate_left
    ·simp only [Act.put,sI,sZ,sS,i64_w,i32_w]
     rfl
    refine pure_ (i:=15) (N:=some 18) (v:=undef) (a':=?_) #[tT,tT,tT,tT,tT,tT,tT,tT,tT,tT,tT,tT,tT,tT,tT,tT,fF,fF,fF,fF,fF,fF,fF] rfl rfl (any_of HT_.out (by kernel_rfl)) (fun _ _ _ h=>h) (Or.inr ⟨by rfl,rfl⟩) ?_ ?_
    rotate_left
    ·simp only [Act.put,sI,sZ,sS,i64_w,i32_w]
     rfl
    refine pure_ (i:=16) (N:=some 19) (v:=undef) (a':=?_) #[tT,tT,tT,tT,tT,tT,tT,tT,tT,tT,tT,tT,tT,tT,tT,tT,tT,fF,fF,fF,fF,fF,fF] rfl rfl (any_of HT_.out (by kernel_rfl)) (fun _ _ _ h=>h) (Or.inr ⟨by rfl,rfl⟩) ?_ ?_
    rotate_left
    ·simp only [Act.put,sI,sZ,sS,i64_w,i32_w]
     rfl
    refine pure_ (i:=17) (N:=some 20) (v:=undef) (a':=?_) #[tT,tT,tT,tT,tT,tT,tT,tT,tT,tT,tT,tT,tT,tT,tT,tT,tT,tT,fF,fF,fF,fF,fF] rfl rfl (any_of HT_.out (by kernel_rfl)) (fun _ _ _ h=>h) (Or.inr ⟨by rfl,rfl⟩) ?_ ?_
    rotate_left
    ·simp only [Act.put,sI,sZ,sS,i64_w,i32_w]
     rfl
    refine pure_ (i:=18) (N:=some 21) (v:=undef) (a':=?_) #[tT,tT,tT,tT,tT,tT,tT,tT,tT,tT,tT,tT,tT,tT,tT,tT,tT,tT,tT,fF,fF,fF,fF] rfl rfl (any_of HT_.out (by kernel_rfl)) (fun _ _ _ h=>h) (Or.inr ⟨by rfl,rfl⟩) ?_ ?_
    rotate_left
    ·simp only [Act.put,sI,sZ,sS,i64_w,i32_w]
     rfl
    refine pure_ (i:=19) (N:=some 22) (v:=undef) (a':=?_) #[tT,tT,tT,tT,tT,tT,tT,tT,tT,tT,tT,tT,tT,tT,tT,tT,tT,tT,tT,tT,fF,fF,fF] rfl rfl (any_of HT_.out (by kernel_rfl)) (fun _ _ _ h=>h) (Or.inr ⟨by rfl,rfl⟩) ?_ ?_
    rotate_left
    ·simp only [Act.put,sI,sZ,sS,i64_w,i32_w]
     rfl
    refine pure_ (i:=20) (N:=some 23) (v:=undef) (a':=?_) #[tT,tT,tT,tT,tT,tT,tT,tT,tT,tT,tT,tT,tT,tT,tT,tT,tT,tT,tT,tT,tT,fF,fF] rfl rfl (any_of HT_.out (by kernel_rfl)) (fun _ _ _ h=>h) (Or.inr ⟨by rfl,rfl⟩) ?_ ?_
    rotate_left
    ·simp only [Act.put,sI,sZ,sS,i64_w,i32_w]
     rfl
    refine pure_ (i:=21) (N:=some 24) (v:=?_) (a':=?_) #[tT,tT,tT,tT,tT,tT,tT,tT,tT,tT,tT,tT,tT,tT,tT,tT,tT,tT,tT,tT,tT,tT,fF] rfl rfl (any_of HT_.out (by kernel_rfl)) (fun _ _ _ h=>h) (Or.inl ⟨by rfl,?_⟩) ?_ ?_
    rotate_left
    ·intro w'
     go_simp
     with_reducible rfl
    rotate_left
    ·simp only [Act.put,sI,sZ,sS,i64_w,i32_w]
     rfl
    refine pure_ (i:=22) (N:=some 2) (v:=?_) (a':=?_) #[tT,tT,tT,tT,tT,tT,tT,tT,tT,tT,tT,tT,tT,tT,tT,tT,tT,tT,tT,tT,tT,tT,tT] rfl rfl (any_of HT_.out (by kernel_rfl)) (fun _ _ _ h=>h) (Or.inl ⟨by rfl,?_⟩) ?_ ?_
    rotate_left
    ·intro w'
     go_simp
     with_reducible rfl
    rotate_left
    ·simp only [Act.put,sI,sZ,sS,i64_w,i32_w]
     rfl
    refine done_ (done_of HT_.out (by kernel_rfl)) ?_
    try go_wp2
    go_ret
    exact ⟨by first|rfl|(simp [errW_none,errW_some] <;> rfl)|(simp [*,errW_none,errW_some] <;> rfl),by repeat (first|(with_reducible first|exact HB.out|apply zA|apply zN|apply zD|refine zS ?_ GE306.out)|exact HB.out)⟩
  ·replace c4:=Bool.eq_false_iff.mpr c4
   subst c4
   have H1:(some false) = some r:=by rw [if_neg (show ¬ (false = true) by decide)] at H;exact H
   clear H
   have H:=H1
   clear H1
   obtain rfl:=Option.some.inj H
   go_enter Try.func37,Try.ntmps37
   try go_wp2_with (first|((with_reducible refine gate_dst (N:=1) rfl ?_);refine box_event ?hg (N:=1) ?hd (cs:=#[.string a0_0,.string a0_1]) (t:=25) ?hr ?_;(case hd=>rfl);(case hg=>rfl);(case hr=>first|(go_simp;done)|(go_simp;rfl));intro gb306 hg w15 hbox hb;have n0_:=aM (below_step HB.out hb);have n1_:=aM (hbox);have n2_:=aM ((by rw [hg];exact (below_size HB.out):w.heap.size ≤ gb306));have n3_:=aM ((by rw [hg];exact (below_size HB.out):w.heap.size ≤ gb306));clear HB;have HB:=n0_;have BK306:=n1_;have GW306:=n2_;have GE306:=n3_;clear n0_ n1_ n2_ n3_;clear hb hbox hg))
   replace BK306:=aM (yD BK306.out)
   replace HB:=aM (zD HB.out)
   refine start_ (n:=23) (S:=fun w'=>w'.cell? ⟨gb306,0,none⟩ = some (.string a0_0) ∧ w'.cell? ⟨gb306,1,none⟩ = some (.string a0_1)) (ds:=[]) #[fF,fF,fF,fF,fF,fF,fF,fF,fF,fF,fF,fF,fF,fF,fF,fF,fF,fF,fF,fF,fF,fF,fF] (by kernel_rfl) rfl rfl ⟨(blk_cell BK306.out 0).trans rfl,(blk_cell BK306.out 1).trans rfl⟩ (fun hHeld=>?_);refine with_tabW impl_IsSequence.tab1 impl_IsSequence.bits1 (fun HT_ HW_=>?_)
   generalize w15.drew = w16 at BK306 HB hHeld ⊢
   refine pure_ (i:=0) (N:=some 3) (v:=?_) (a':=?_) #[tT,fF,fF,fF,fF,fF,fF,fF,fF,fF,fF,fF,fF,fF,fF,fF,fF,fF,fF,fF,fF,fF,fF] rfl rfl (any_of HT_.out (by kernel_rfl)) (fun _ _ _ h=>h) (Or.inl ⟨by rfl,?_⟩) ?_ ?_
   rotate_left
   ·intro w'
    go_simp
    with_reducible rfl
   rotate_left
   ·simp only [Act.put,sI,sZ,sS,i64_w,i32_w]
    rfl
   refine pure_ (i:=2) (N:=some 5) (v:=?_) (a':=?_) #[tT,fF,tT,fF,fF,fF,fF,fF,fF,fF,fF,fF,fF,fF,fF,fF,fF,fF,fF,fF,fF,fF,fF] rfl rfl (any_of HT_.out (by kernel_rfl)) (fun _ _ _ h=>h) (Or.inl ⟨by rfl,?_⟩) ?_ ?_
   rotate_left
   ·intro w'
    go_simp
    with_reducible rfl
   rotate_left
   ·simp only [Act.put,sI,sZ,sS,i64_w,i32_w]
    rfl
   refine take_ (i:=1) (N:=some 4) (v:=?_) (a':=?_) #[tT,tT,tT,fF,fF,fF,fF,fF,fF,fF,fF,fF,fF,fF,fF,fF,fF,fF,fF,fF,fF,fF,fF] rfl rfl (take_ofW HT_.out HW_.out (by kernel_rfl)) (fun _ _ _ h=>h) (Or.inl ⟨by rfl,?_⟩) hHeld ?_ ?_
   rotate_left
   ·rintro w' ⟨s0,s1⟩
    go_simp
    with_reducible rfl
   rotate_left
   ·simp only [Act.put,sI,sZ,sS,i64_w,i32_w]
    rfl
   refine take_ (i:=3) (N:=some 6) (v:=?_) (a':=?_) #[tT,tT,tT,tT,fF,fF,fF,fF,fF,fF,fF,fF,fF,fF,fF,fF,fF,fF,fF,fF,fF,fF,fF] rfl rfl (take_ofW HT_.out HW_.out (by kernel_rfl)) (fun _ _ _ h=>h) (Or.inl ⟨by rfl,?_⟩) hHeld ?_ ?_
   rotate_left
   ·rintro w' ⟨s0,s1⟩
    go_simp
    with_reducible rfl
   rotate_left
   ·simp only [Act.put,sI,sZ,sS,i64_w,i32_w]
    rfl
   refine pure_ (i:=4) (N:=some 7) (v:=?_) (a':=?_) #[tT,tT,tT,tT,tT,fF,fF,fF,fF,fF,fF,fF,fF,fF,fF,fF,fF,fF,fF,fF,fF,fF,fF] rfl rfl (any_of HT_.out (by kernel_rfl)) (fun _ _ _ h=>h) (Or.inl ⟨by rfl,?_⟩) ?_ ?_
   rotate_left
   ·intro w'
    go_simp
    with_reducible rfl
   rotate_left
   ·simp only [Act.put,sI,sZ,sS,i64_w,i32_w]
    rfl
   refine one_ (i:=5) (N:=some 8) #[tT,tT,tT,tT,tT,tT,fF,fF,fF,fF,fF,fF,fF,fF,fF,fF,fF,fF,fF,fF,fF,fF,fF] rfl rfl (one_of HT_.out (by kernel_rfl)) (by decide) (fun K hK=>?_)
   refine goes_ Try.func49 (by kernel_rfl) rfl #[.string (a0_0 ++ a0_1)] (by rfl) rfl rfl (by (try simp only [sM,sC,sN]);first|done|rfl|(simp only [List.length_drop,List.length_take];rfl)) ?_
   with_reducible refine (impl_areLetters.calls (a0_0 ++ a0_1) false _ A3.out).mono ?_
   rintro e w17 ⟨rfl,hb⟩
   refine ⟨_,rfl,?_⟩
   replace BK306:=aM (blk_below (g:=gb306) (o:=.cells #[.string a0_0,.string a0_1] 25 (0,0)) BK306.out hb)
   replace HB:=aM (below_step HB.out hb)
   (try clear hb)
   refine hK.out _ _ ⟨(blk_cell BK306.out 0).trans rfl,(blk_cell BK306.out 1).trans rfl⟩ (fun hHeld=>?_)
   clear hK K
   refine norm_ (a':=?_) ?_ ?_
   rotate_left
   ·show Act.put _ (some 8) _ = _
    simp only [Act.put,sI,sZ,sS,i64_w,i32_w]
    rfl
   refine pure_ (i:=6) (N:=some 9) (v:=?_) (a':=?_) #[tT,tT,tT,tT,tT,tT,tT,fF,fF,fF,fF,fF,fF,fF,fF,fF,fF,fF,fF,fF,fF,fF,fF] rfl rfl (any_of HT_.out (by kernel_rfl)) (fun _ _ _ h=>h) (Or.inl ⟨by rfl,?_⟩) ?_ ?_
   rotate_left
   ·intro w'
    go_simp
    with_reducible rfl
   rotate_left
   ·simp only [Act.put,sI,sZ,sS,i64_w,i32_w]
    rfl
   refine pure_ (i:=7) (N:=some 10) (v:=undef) (a':=?_) #[tT,tT,tT,tT,tT,tT,tT,tT,fF,fF,fF,fF,fF,fF,fF,fF,fF,fF,fF,fF,fF,fF,fF] rfl rfl (any_of HT_.out (by kernel_rfl)) (fun _ _ _ h=>h) (Or.inr ⟨by rfl,rfl⟩) ?_ ?_
   rotate_left
   ·simp only [Act.put,sI,sZ,sS,i64_w,i32_w]
    rfl
   refine pure_ (i:=8) (N:=some 11) (v:=undef) (a':=?_) #[tT,tT,tT,tT,tT,tT,tT,tT,tT,fF,fF,fF,fF,fF,fF,fF,fF,fF,fF,fF,fF,fF,fF] rfl rfl (any_of HT_.out (by kernel_rfl)) (fun _ _ _ h=>h) (Or.inr ⟨by rfl,rfl⟩) ?_ ?_
   rotate_left
   ·simp only [Act.put,sI,sZ,sS,i64_w,i32_w]
    rfl
   refine pure_ (i:=9) (N:=some 12) (v:=undef) (a':=?_) #[tT,tT,tT,tT,tT,tT,tT,tT,tT,tT,fF,fF,fF,fF,fF,fF,fF,fF,fF,fF,fF,fF,fF] rfl rfl (any_of HT_.out (by kernel_rfl)) (fun _ _ _ h=>h) (Or.inr ⟨by rfl,rfl⟩) ?_ ?_
   rotate_left
   ·simp only [Act.put,sI,sZ,sS,i64_w,i32_w]
    rfl
   refine pure_ (i:=10) (N:=some 13) (v:=undef) (a':=?_) #[tT,tT,tT,tT,tT,tT,tT,tT,tT,tT,tT,fF,fF,fF,fF,fF,fF,fF,fF,fF,fF,fF,fF] rfl rfl (any_of HT_.out (by kernel_rfl)) (fun _ _ _ h=>h) (Or.inr ⟨by rfl,rfl⟩) ?_ ?_
   rotate_left
   ·simp only [Act.put,sI,sZ,sS,i64_w,i32_w]
    rfl
   refine pure_ (i:=11) (N:=some 14) (v:=undef) (a':=?_) #[tT,tT,tT,tT,tT,tT,tT,tT,tT,tT,tT,tT,fF,fF,fF,fF,fF,fF,fF,fF,fF,fF,fF] rfl rfl (any_of HT_.out (by kernel_rfl)) (fun _ _ _ h=>h) (Or.inr ⟨by rfl,rfl⟩) ?_ ?_
   rotate_left
   ·simp only [Act.put,sI,sZ,sS,i64_w,i32_w]
    rfl
   refine pure_ (i:=12) (N:=some 15) (v:=?_) (a':=?_) #[tT,tT,tT,tT,tT,tT,tT,tT,tT,tT,tT,tT,tT,fF,fF,fF,fF,fF,fF,fF,fF,fF,fF] rfl rfl (any_of HT_.out (by kernel_rfl)) (fun _ _ _ h=>h) (Or.inl ⟨by rfl,?_⟩) ?_ ?_
   rotate_left
   ·intro w'
    go_simp
    with_reducible rfl
   rotate_left
   ·simp only [Act.put,sI,sZ,sS,i64_w,i32_w]
    rfl
   refine pure_ (i:=13) (N:=some 16) (v:=?_) (a':=?_) #[tT,tT,tT,tT,tT,tT,tT,tT,tT,tT,tT,tT,tT,tT,fF,fF,fF,fF,fF,fF,fF,fF,fF] rfl rfl (any_of HT_.out (by kernel_rfl)) (fun _ _ _ h=>h) (Or.inl ⟨by rfl,?_⟩) ?_ ?_
   rotate_left
   ·intro w'
    go_simp
    with_reducible rfl
   rotate_left
   ·simp only [Act.put,sI,sZ,sS,i64_w,i32_w]
    rfl
   refine pure_ (i:=14) (N:=some 17) (v:=undef) (a':=?_) #[tT,tT,tT,tT,tT,tT,tT,tT,tT,tT,tT,tT,tT,tT,tT,fF,fF,fF,fF,fF,fF,fF,fF] rfl rfl (any_of HT_.out (by kernel_rfl)) (fun _ _ _ h=>h) (Or.inr ⟨by rfl,rfl⟩) ?_ ?_
   rotate_left
   ·simp only [Act.put,sI,sZ,sS,i64_w,i32_w]
    rfl
   refine pure_ (i:=15) (N:=some 18) (v:=undef) (a':=?_) #[tT,tT,tT,tT,tT,tT,tT,tT,tT,tT,tT,tT,tT,tT,tT,tT,fF,fF,fF,fF,fF,fF,fF] rfl rfl (any_of HT_.out (by kernel_rfl)) (fun _ _ _ h=>h) (Or.inr ⟨by rfl,rfl⟩) ?_ ?_
   rotate_left
   ·simp only [Act.put,sI,sZ,sS,i64_w,i32_w]
    rfl
   refine pure_ (i:=16) (N:=some 19) (v:=undef) (a':=?_) #[tT,tT,tT,tT,tT,tT,tT,tT,tT,tT,tT,tT,tT,tT,tT,tT,tT,fF,fF,fF,fF,fF,fF] rfl rfl (any_of HT_.out (by kernel_rfl)) (fun _ _ _ h=>h) (Or.inr ⟨by rfl,rfl⟩) ?_ ?_
   rotate_left
   ·simp only [Act.put,sI,sZ,sS,i64_w,i32_w]
    rfl
   refine pure_ (i:=17) (N:=some 20) (v:=undef) (a':=?_) #[tT,tT,tT,tT,tT,tT,tT,tT,tT,tT,tT,tT,tT,tT,tT,tT,tT,tT,fF,fF,fF,fF,fF] rfl rfl (any_of HT_.out (by kernel_rfl)) (fun _ _ _ h=>h) (Or.inr ⟨by rfl,rfl⟩) ?_ ?_
   rotate_left
   ·simp only [Act.put,sI,sZ,sS,i64_w,i32_w]
    rfl
   refine pure_ (i:=18) (N:=some 21) (v:=undef) (a':=?_) #[tT,tT,tT,tT,tT,tT,tT,tT,tT,tT,tT,tT,tT,tT,tT,tT,tT,tT,tT,fF,fF,fF,fF] rfl rfl (any_of HT_.out (by kernel_rfl)) (fun _ _ _ h=>h) (Or.inr ⟨by rfl,rfl⟩) ?_ ?_
   rotate_left
   ·simp only [Act.put,sI,sZ,sS,i64_w,i32_w]
    rfl
   refine pure_ (i:=19) (N:=some 22) (v:=undef) (a':=?_) #[tT,tT,tT,tT,tT,tT,tT,tT,tT,tT,tT,tT,tT,tT,tT,tT,tT,tT,tT,tT,fF,fF,fF] rfl rfl (any_of HT_.out (by kernel_rfl)) (fun _ _ _ h=>h) (Or.inr ⟨by rfl,rfl⟩) ?_ ?_
   rotate_left
   ·simp only [Act.put,sI,sZ,sS,i64_w,i32_w]
    rfl
   refine pure_ (i:=20) (N:=some 23) (v:=undef) (a':=?_) #[tT,tT,tT,tT,tT,tT,tT,tT,tT,tT,tT,tT,tT,tT,tT,tT,tT,tT,tT,tT,tT,fF,fF] rfl rfl (any_of HT_.out (by kernel_rfl)) (fun _ _ _ h=>h) (Or.inr ⟨by rfl,rfl⟩) ?_ ?_
   rotate_left
   ·simp only [Act.put,sI,sZ,sS,i64_w,i32_w]
    rfl
   refine pure_ (i:=21) (N:=some 24) (v:=?_) (a':=?_) #[tT,tT,tT,tT,tT,tT,tT,tT,tT,tT,tT,tT,tT,tT,tT,tT,tT,tT,tT,tT,tT,tT,fF] rfl rfl (any_of HT_.out (by kernel_rfl)) (fun _ _ _ h=>h) (Or.inl ⟨by rfl,?_⟩) ?_ ?_
   rotate_left
   ·intro w'
    go_simp
    with_reducible rfl
   rotate_left
   ·simp only [Act.put,sI,sZ,sS,i64_w,i32_w]
    rfl
   refine pure_ (i:=22) (N:=some 2) (v:=?_) (a':=?_) #[tT,tT,tT,tT,tT,tT,tT,tT,tT,tT,tT,tT,tT,tT,tT,tT,tT,tT,tT,tT,tT,tT,tT] rfl rfl (any_of HT_.out (by kernel_rfl)) (fun _ _ _ h=>h) (Or.inl ⟨by rfl,?_⟩) ?_ ?_
   rotate_left
   ·intro w'
    go_simp
    with_reducible rfl
   rotate_left
   ·simp only [Act.put,sI,sZ,sS,i64_w,i32_w]
    rfl
   refine done_ (done_of HT_.out (by kernel_rfl)) ?_
   try go_wp2
   go_ret
   exact ⟨by first|rfl|(simp [errW_none,errW_some] <;> rfl)|(simp [*,errW_none,errW_some] <;> rfl),HB.out⟩
 ·rw [if_neg c2] at H
  exact absurd H (by simp)
end Go.Proofs.Ytccinmopfchjlaa.Q
end
section
namespace Go.Proofs.Ytccinmopfchjlaa.Q
open Go.Proofs.YtccinmopfchjlaaW.Ext
open Go.RowKit Go.Proofs.YtccinmopfchjlaaW.PrintWords Go.Proofs.YtccinmopfchjlaaW.PrintLast Go.Proofs.YtccinmopfchjlaaW.PrintMore
attribute [local go_sem] max2_int min2_int max_two min_two max_three min_three max_four min_four   -- for this text's walks alone
set_option linter.unusedVariables false
set_option linter.unusedSimpArgs false
set_option maxHeartbeats 1000000 in
theorem indexFunc_Sequence.calls (g:Nat) (lb:Array Value) (eg:∀ args w,(callFunc g args).run Try.prog w = .ok (.enter g args) w) (p:S25 → Option Bool) (A0:Option Addr) (c0:Nat) (l0:List S25) (r:Int) (w:World)
  (hr0:Kd.C k25 w A0 l0.length l0) (hc0:l0.length ≤ c0)
  (hp:∀ W x b,Below w.heap.size w W → p x = some b → Calls Try.prog g (#[.agg #[.string x.f0,.string x.f1]] ++ lb) W fun e w'=>e = .returned (.bool b) ∧ Below W.heap.size W w')
  (h:idxGo p 0 l0 = some r) :
  Calls Try.prog 61 #[.slice A0 l0.length c0,.func (.func g) #[] lb] w fun e w'=>e = .returned (.int .i64 r) ∧ Below w.heap.size w w':=by
 have hm:=Kd.C_max hr0
 have HR:=aM hr0
 have H0:=aM h
 have HP:=aM hp
 clear hr0 h hp
 go_enter Try.func61,Try.ntmps61
 go_wp2
 go_loopg [8] l0.length (fun gg i wr=>∃ k:Nat,k ≤ l0.length ∧ l0.length - k ≤ gg ∧ i = .int .i64 k ∧ Aside0 (idxGo p k (l0.drop k) = some r) ∧ Aside0 (Below w.heap.size w wr))
 case atStart=>exact ⟨0,Nat.zero_le _,by omega,rfl,aM (by simpa using H0.out),aM (Below.refl _ _)⟩
 case round =>
  obtain ⟨k,hk,hg,rfl,HJ,HB⟩:=hrel
  clear H0
  by_cases hlt:k < l0.length
  ·have hlti:(k:Int) < (l0.length:Int):=by omega
   obtain ⟨b,hb,hstep⟩:=idxGo_drop p l0 k k r hlt HJ.out
   obtain ⟨ad,e,e0,e1⟩:=at_T25 (Kd.C_below HR.out HB.out) (k:Int) (by omega) hlti
   have hx:rd_T25 l0 (k:Int) = l0[k]:=by simp [rd_T25,hlt]
   rw [hx] at e0 e1
   simp only [Int.toNat_natCast] at e0 e1
   generalize l0[k] = x at hb e0 e1
   have hcall:=HP.out wr x b HB.out hb
   subst e
   rcases hstep with ⟨rfl,rfl⟩|⟨rfl,hj⟩
   ·have HC:=aM hcall
    have HB1:=HB.out
    clear hcall hb hx HP HJ
    go_wp2_with (go_at_fn g;refine HC.out.mono ?_;rintro e w' ⟨rfl,hb'⟩)
    go_ret
    exact ⟨rfl,HB1.trans (hb'.mono HB1.size)⟩
   ·have HC:=aM hcall
    have HJ2:=aM hj
    clear hcall hb hx hj
    go_wp2_with (go_at_fn g;refine HC.out.mono ?_;rintro e w' ⟨rfl,hb'⟩)
    go_roundg (l0.length - (k + 1))
    case measure=>omega
    case rel=>exact ⟨k + 1,by omega,by omega,by go_num,⟨by simpa using HJ2.out⟩,⟨HB.out.trans (hb'.mono HB.out.size)⟩⟩
  ·have hlti:¬ (k:Int) < (l0.length:Int):=by omega
   have hr:r = -1:=idxGo_end p l0 k k r (by omega) HJ.out
   have HR1:=aM hr
   have HB1:=HB.out
   clear hr HP HJ
   go_wp2
   go_ret
   exact ⟨by rw [HR1.out];rfl,HB1⟩
set_option maxHeartbeats 1000000 in
theorem containsFunc_Sequence.calls (g:Nat) (lb:Array Value) (eg:∀ args w,(callFunc g args).run Try.prog w = .ok (.enter g args) w) (p:S25 → Option Bool) (A0:Option Addr) (c0:Nat) (l0:List S25) (r:Int) (w:World)
  (hr0:Kd.C k25 w A0 l0.length l0) (hc0:l0.length ≤ c0)
  (hp:∀ W x b,Below w.heap.size w W → p x = some b → Calls Try.prog g (#[.agg #[.string x.f0,.string x.f1]] ++ lb) W fun e w'=>e = .returned (.bool b) ∧ Below W.heap.size W w')
  (h:idxGo p 0 l0 = some r) :
  Calls Try.prog 47 #[.slice A0 l0.length c0,.func (.func g) #[] lb] w fun e w'=>e = .returned (.bool (decide (0 ≤ r))) ∧ Below w.heap.size w w':=by
 have hcon:=indexFunc_Sequence.calls g lb eg p A0 c0 l0 r w hr0 hc0 hp h
 have HC:=aM hcon
 clear hcon hp h hr0
 go_enter Try.func47,Try.ntmps47
 go_wp2_with (go_at_call 61;refine HC.out.mono ?_;rintro e w' ⟨rfl,hb'⟩)
 go_ret
 exact ⟨rfl,hb'⟩
set_option maxHeartbeats 1000000 in
theorem notIs_Sequence.calls (g:Nat) (eg:∀ args w,(callFunc g args).run Try.prog w = .ok (.enter g args) w) (B:Nat) (w:World) (hcell:w.cell? ⟨B,0,none⟩ = some (.func (.func g) #[] #[])) (hB:B < w.heap.size) (x:S25) (b:Bool)
  (hp:∀ W,Below w.heap.size w W → Calls Try.prog g #[.agg #[.string x.f0,.string x.f1]] W fun e w'=>e = .returned (.bool b) ∧ Below W.heap.size W w') :
  Calls Try.prog 48 #[.agg #[.string x.f0,.string x.f1],.pointer (some ⟨B,0,none⟩)] w fun e w'=>e = .returned (.bool (!b)) ∧ Below w.heap.size w w':=by
 have HP:=aM hp
 have hu:=Try.underlying25
 clear hp
 go_enter Try.func48,Try.ntmps48
 go_wp2_with (go_at_fn g;refine (HP.out _ ((Below.refl _ _).alloc (Nat.le_refl _) _)).mono ?_;rintro e w' ⟨rfl,hb'⟩)
 go_ret
 exact ⟨rfl,((Below.refl _ w).alloc (Nat.le_refl _) _).trans (hb'.mono (by simp))⟩
set_option maxHeartbeats 1000000 in
theorem areAll_Sequence.calls (g:Nat) (eg:∀ args w,(callFunc g args).run Try.prog w = .ok (.enter g args) w) (p:S25 → Option Bool) (A0:Option Addr) (c0:Nat) (l0:List S25) (r:Bool) (w:World)
  (hr0:Kd.C k25 w A0 l0.length l0) (hc0:l0.length ≤ c0)
  (hp:∀ W x b,Below w.heap.size w W → p x = some b → Calls Try.prog g #[.agg #[.string x.f0,.string x.f1]] W fun e w'=>e = .returned (.bool b) ∧ Below W.heap.size W w')
  (h:allM p l0 = some r) :
  Calls Try.prog 36 #[.slice A0 l0.length c0,.func (.func g) #[] #[]] w fun e w'=>e = .returned (.bool r) ∧ Below w.heap.size w w':=by
 obtain ⟨i,h1,h2⟩:=allM_idx p l0 0 r (by omega) h
 have hw1:Below w.heap.size w (w.alloc (.cells #[.func (.func g) #[] #[]] 46)):=(Below.refl _ w).alloc (Nat.le_refl _) _
 have hcon:=containsFunc_Sequence.calls 48 #[.pointer (some ⟨w.heap.size,0,none⟩)] (enters_of Try.func48 (by kernel_rfl) rfl)
  (fun x=>(p x).map (fun b=>!b)) A0 c0 l0 i (w.alloc (.cells #[.func (.func g) #[] #[]] 46)) (Kd.C_below hr0 hw1) hc0
  (fun W x b hW hx=>by
   obtain ⟨q,hq,rfl⟩:=Option.map_eq_some_iff.1 hx
   have hcell:W.cell? ⟨w.heap.size,0,none⟩ = some (.func (.func g) #[] #[]):=(hW.cell (p:=⟨w.heap.size,0,none⟩) (by simp)).trans (by simp)
   exact notIs_Sequence.calls g eg w.heap.size W hcell (by have:=hW.size;simp at this;omega) x q (fun W' hW'=>hp W' x q (hw1.trans ((hW.mono (by simp)).trans (hW'.mono (by have:=hW.size;simp at this;omega)))) hq)) h1
 have HC:=aM hcon
 have H2:=aM h2
 clear hcon hp h hr0 h1 h2
 go_enter Try.func36,Try.ntmps36
 go_wp2_with (go_at_call 47;refine HC.out.mono ?_;rintro e w' ⟨rfl,hb'⟩)
 go_ret
 exact ⟨by rw [H2.out];simp,hw1.trans (hb'.mono (by simp))⟩
def impl_sequencesCode.f (k:Nat) (a0:Bool) (l1:List S25):Option Int:=(allM (fun x=>impl_IsSequence.f k x.f0 x.f1) l1).bind fun b=>some (if b = true then (if a0 = true then 0 else 2) else 1)
theorem impl_sequencesCode.mono:∀ a0 a1 k,LeO (impl_sequencesCode.f k a0 a1) (impl_sequencesCode.f (k + 1) a0 a1):=by
 intro a l k r h
 unfold impl_sequencesCode.f at h ⊢
 cases hb:allM (fun x:S25=>impl_IsSequence.f k x.f0 x.f1) l with
 | none=>rw [hb] at h;simp at h
 | some b =>
  rw [hb] at h
  rw [allM_mono (q:=fun x:S25=>impl_IsSequence.f (k + 1) x.f0 x.f1) (fun x=>impl_IsSequence.mono _ _ k) l b hb]
  exact h
set_option maxHeartbeats 1000000 in
theorem impl_sequencesCode.calls (k:Nat) (a0:Bool) (A1:Option Addr) (c1:Nat) (l1:List S25) (r:Int) (w:World) (hr1:Kd.C k25 w A1 l1.length l1) (hc1:l1.length ≤ c1) (h:impl_sequencesCode.f k a0 l1 = some r) :
  Calls Try.prog 19 #[.bool a0,.slice A1 l1.length c1] w fun e w'=>e = .returned (.int .i64 r) ∧ Below w.heap.size w w':=by
 unfold impl_sequencesCode.f at h
 obtain ⟨b,hb,hr⟩:=Option.bind_eq_some_iff.1 h
 have hcon:=areAll_Sequence.calls 37 (enters_of Try.func37 (by kernel_rfl) rfl) (fun x:S25=>impl_IsSequence.f k x.f0 x.f1) A1 c1 l1 b w hr1 hc1
  (fun W x q _ hx=>(impl_IsSequence.calls k _ _ q W hx).mono fun e w' ⟨he,hd⟩=>⟨he,by first|exact hd|exact hd.below⟩) hb
 have HR:=aM hr
 clear h hr hb hr1
 cases b <;> cases a0 <;>
 ·go_enter Try.func19,Try.ntmps19
  go_wp2_with (go_at_call 36;refine hcon.mono ?_;rintro e w' ⟨rfl,hb'⟩)
  go_ret
  have hr:=HR.out
  simp at hr
  subst hr
  exact ⟨rfl,hb'⟩
def impl_Sequence_at.f (a0_0:ByteArray) (a0_1:ByteArray) (a1:Int):Option (Int):=if a1 < (a0_0.size:Int) then (if 0 ≤ a1 then (some (bt a0_0 a1)) else (none)) else (if (a0_1.size:Int) = 0 then (none) else (if 0 ≤ (Int.tmod (wrap64 (a1 - (a0_0.size:Int))) (a0_1.size:Int)) then (if (Int.tmod (wrap64 (a1 - (a0_0.size:Int))) (a0_1.size:Int)) < (a0_1.size:Int) then (some (bt a0_1 (Int.tmod (wrap64 (a1 - (a0_0.size:Int))) (a0_1.size:Int)))) else (none)) else (none)))
set_option maxHeartbeats 8000000 in
set_option maxRecDepth 100000 in
theorem impl_Sequence_at.calls (a0_0:ByteArray) (a0_1:ByteArray) (a1:Int) (r:Int) (w:World) (h:impl_Sequence_at.f a0_0 a0_1 a1 = some r) :
  Calls Try.prog 38 #[.agg #[.string a0_0,.string a0_1],.int .i64 a1] w fun e w'=>e = .returned (.int .u8 r) ∧ Below w.heap.size w w':=by
 have hu25:=Try.underlying25
 have HB:=aM (Below.refl w.heap.size w)
 have H:(if a1 < (a0_0.size:Int) then (if 0 ≤ a1 then (some (bt a0_0 a1)) else (none)) else (if (a0_1.size:Int) = 0 then (none) else (if 0 ≤ (Int.tmod (wrap64 (a1 - (a0_0.size:Int))) (a0_1.size:Int)) then (if (Int.tmod (wrap64 (a1 - (a0_0.size:Int))) (a0_1.size:Int)) < (a0_1.size:Int) then (some (bt a0_1 (Int.tmod (wrap64 (a1 - (a0_0.size:Int))) (a0_1.size:Int)))) else (none)) else (none)))) = some r:=h
 clear h
 by_cases c3:a1 < (a0_0.size:Int)
 ·rw [if_pos c3] at H
  have c3b0:decide (a1 < (a0_0.size:Int)) = true:=decide_eq_true c3
  clear c3
  by_cases c4:0 ≤ a1
  ·rw [if_pos c4] at H
   have c4b0:decide (0 ≤ a1) = true:=decide_eq_true c4
   clear c4
   obtain rfl:=Option.some.inj H
   go_enter Try.func38,Try.ntmps38
   go_wp2_with (first|((with_reducible refine gate_dst (N:=2) rfl ?_);refine box_event ?hg (N:=2) ?hd (cs:=#[.string a0_0,.string a0_1]) (t:=25) ?hr ?_;(case hd=>rfl);(case hg=>rfl);(case hr=>first|(go_simp;done)|(go_simp;rfl));intro gb311 hg w6 hbox hb;have n0_:=aM (below_step (by repeat (first|(with_reducible first|exact HB.out|apply zA|apply zN|apply zD)|exact HB.out)) hb);have n1_:=aM (hbox);have n2_:=aM ((by rw [hg];exact (below_size (by repeat (first|(with_reducible first|exact HB.out|apply zA|apply zN|apply zD)|exact HB.out))):w.heap.size ≤ gb311));have n3_:=aM ((by rw [hg];exact (below_size (by repeat (first|(with_reducible first|exact HB.out|apply zA|apply zN|apply zD)|exact HB.out))):w.heap.size ≤ gb311));clear HB;have HB:=n0_;have BK311:=n1_;have GW311:=n2_;have GE311:=n3_;clear n0_ n1_ n2_ n3_;clear hb hbox hg;have hcz7_0:w6.cell? ⟨gb311,0,none⟩ = some (.string a0_0):=(blk_cell BK311.out 0).trans rfl;have hcz7_1:w6.cell? ⟨gb311,1,none⟩ = some (.string a0_1):=(blk_cell BK311.out 1).trans rfl;have hfz7_0:=blk_frozen BK311.out 0;have hfz7_1:=blk_frozen BK311.out 1;have p5:0 ≤ (a1:Int):=of_decide_eq_true (by first|(with_reducible assumption)|assumption);have q5:a1 < (a0_0.size:Int):=of_decide_eq_true (by first|(with_reducible assumption)|assumption);have hx5:=bt_at a0_0 a1;replace p5:=eq_true p5;replace q5:=eq_true q5))
   repeat (go_quiet (first|((with_reducible refine gate_dst (N:=2) rfl ?_);refine box_event ?hg (N:=2) ?hd (cs:=#[.string a0_0,.string a0_1]) (t:=25) ?hr ?_;(case hd=>rfl);(case hg=>rfl);(case hr=>first|(go_simp;done)|(go_simp;rfl));intro gb311 hg w6 hbox hb;have n0_:=aM (below_step (by repeat (first|(with_reducible first|exact HB.out|apply zA|apply zN|apply zD)|exact HB.out)) hb);have n1_:=aM (hbox);have n2_:=aM ((by rw [hg];exact (below_size (by repeat (first|(with_reducible first|exact HB.out|apply zA|apply zN|apply zD)|exact HB.out))):w.heap.size ≤ gb311));have n3_:=aM ((by rw [hg];exact (below_size (by repeat (first|(with_reducible first|exact HB.out|apply zA|apply zN|apply zD)|exact HB.out))):w.heap.size ≤ gb311));clear HB;have HB:=n0_;have BK311:=n1_;have GW311:=n2_;have GE311:=n3_;clear n0_ n1_ n2_ n3_;clear hb hbox hg;have hcz7_0:w6.cell? ⟨gb311,0,none⟩ = some (.string a0_0):=(blk_cell BK311.out 0).trans rfl;have hcz7_1:w6.cell? ⟨gb311,1,none⟩ = some (.string a0_1):=(blk_cell BK311.out 1).trans rfl;have hfz7_0:=blk_frozen BK311.out 0;have hfz7_1:=blk_frozen BK311.out 1;have p5:0 ≤ (a1:Int):=of_decide_eq_true (by first|(with_reducible assumption)|assumption);have q5:a1 < (a0_0.size:Int):=of_decide_eq_true (by first|(with_reducible assumption)|assumption);have hx5:=bt_at a0_0 a1;replace p5:=eq_true p5;replace q5:=eq_true q5));try go_wp2_with (first|((with_reducible refine gate_dst (N:=2) rfl ?_);refine box_event ?hg (N:=2) ?hd (cs:=#[.string a0_0,.string a0_1]) (t:=25) ?hr ?_;(case hd=>rfl);(case hg=>rfl);(case hr=>first|(go_simp;done)|(go_simp;rfl));intro gb311 hg w6 hbox hb;have n0_:=aM (below_step (by repeat (first|(with_reducible first|exact HB.out|apply zA|apply zN|apply zD)|exact HB.out)) hb);have n1_:=aM (hbox);have n2_:=aM ((by rw [hg];exact (below_size (by repeat (first|(with_reducible first|exact HB.out|apply zA|apply zN|apply zD)|exact HB.out))):w.heap.size ≤ gb311));have n3_:=aM ((by rw [hg];exact (below_size (by repeat (first|(with_reducible first|exact HB.out|apply zA|apply zN|apply zD)|exact HB.out))):w.heap.size ≤ gb311));clear HB;have HB:=n0_;have BK311:=n1_;have GW311:=n2_;have GE311:=n3_;clear n0_ n1_ n2_ n3_;clear hb hbox hg;have hcz7_0:w6.cell? ⟨gb311,0,none⟩ = some (.string a0_0):=(blk_cell BK311.out 0).trans rfl;have hcz7_1:w6.cell? ⟨gb311,1,none⟩ = some (.string a0_1):=(blk_cell BK311.out 1).trans rfl;have hfz7_0:=blk_frozen BK311.out 0;have hfz7_1:=blk_frozen BK311.out 1;have p5:0 ≤ (a1:Int):=of_decide_eq_true (by first|(with_reducible assumption)|assumption);have q5:a1 < (a0_0.size:Int):=of_decide_eq_true (by first|(with_reducible assumption)|assumption);have hx5:=bt_at a0_0 a1;replace p5:=eq_true p5;replace q5:=eq_true q5)))
   go_ret
   exact ⟨by first|rfl|(simp [errW_none,errW_some] <;> rfl)|(simp [*,errW_none,errW_some] <;> rfl),by repeat (first|(with_reducible first|exact HB.out|apply zA|apply zN|apply zD|refine zS ?_ GE311.out)|exact HB.out)⟩
  ·rw [if_neg c4] at H
   exact absurd H (by simp)
 ·rw [if_neg c3] at H
  have c3b0:decide (a1 < (a0_0.size:Int)) = false:=decide_eq_false c3
  clear c3
  by_cases c8:(a0_1.size:Int) = 0
  ·rw [if_pos c8] at H
   exact absurd H (by simp)
  ·rw [if_neg c8] at H
   have c8b0:((a0_1.size:Int) == 0) = false:=beq_eq_false_iff_ne.mpr c8
   have c8b1:((a0_1.size:Int) != 0) = true:=bne_iff_ne.mpr c8
   obtain ⟨ji9,hji9⟩:∃ j_:Int,(Int.tmod (wrap64 (a1 - (a0_0.size:Int))) (a0_1.size:Int)) = j_:=⟨_,rfl⟩
   replace H:(if 0 ≤ (ji9) then (if (ji9) < (a0_1.size:Int) then (some (bt a0_1 (ji9))) else (none)) else (none)) = some r:=by first|(rw [hji9] at H;exact H)|(simp only [hji9] at H ⊢;exact H)
   by_cases c10:0 ≤ (ji9)
   ·rw [if_pos c10] at H
    have c10b0:decide (0 ≤ (ji9)) = true:=decide_eq_true c10
    clear c10
    by_cases c11:(ji9) < (a0_1.size:Int)
    ·rw [if_pos c11] at H
     have c11b0:decide ((ji9) < (a0_1.size:Int)) = true:=decide_eq_true c11
     clear c11
     obtain rfl:=Option.some.inj H
     go_enter Try.func38,Try.ntmps38
     go_wp2_with (first|((with_reducible refine gate_dst (N:=2) rfl ?_);refine box_event ?hg (N:=2) ?hd (cs:=#[.string a0_0,.string a0_1]) (t:=25) ?hr ?_;(case hd=>rfl);(case hg=>rfl);(case hr=>first|(go_simp;done)|(go_simp;rfl));intro gb311 hg w13 hbox hb;have n0_:=aM (below_step (by repeat (first|(with_reducible first|exact HB.out|apply zA|apply zN|apply zD)|exact HB.out)) hb);have n1_:=aM (hbox);have n2_:=aM ((by rw [hg];exact (below_size (by repeat (first|(with_reducible first|exact HB.out|apply zA|apply zN|apply zD)|exact HB.out))):w.heap.size ≤ gb311));have n3_:=aM ((by rw [hg];exact (below_size (by repeat (first|(with_reducible first|exact HB.out|apply zA|apply zN|apply zD)|exact HB.out))):w.heap.size ≤ gb311));clear HB;have HB:=n0_;have BK311:=n1_;have GW311:=n2_;have GE311:=n3_;clear n0_ n1_ n2_ n3_;clear hb hbox hg;have hcz14_0:w13.cell? ⟨gb311,0,none⟩ = some (.string a0_0):=(blk_cell BK311.out 0).trans rfl;have hcz14_1:w13.cell? ⟨gb311,1,none⟩ = some (.string a0_1):=(blk_cell BK311.out 1).trans rfl;have hfz14_0:=blk_frozen BK311.out 0;have hfz14_1:=blk_frozen BK311.out 1;have p12:0 ≤ ((ji9):Int):=of_decide_eq_true (by first|(with_reducible assumption)|assumption);have q12:(ji9) < (a0_1.size:Int):=of_decide_eq_true (by first|(with_reducible assumption)|assumption);have hx12:=bt_at a0_1 (ji9);replace p12:=eq_true p12;replace q12:=eq_true q12))
     repeat (go_quiet (first|((with_reducible refine gate_dst (N:=2) rfl ?_);refine box_event ?hg (N:=2) ?hd (cs:=#[.string a0_0,.string a0_1]) (t:=25) ?hr ?_;(case hd=>rfl);(case hg=>rfl);(case hr=>first|(go_simp;done)|(go_simp;rfl));intro gb311 hg w13 hbox hb;have n0_:=aM (below_step (by repeat (first|(with_reducible first|exact HB.out|apply zA|apply zN|apply zD)|exact HB.out)) hb);have n1_:=aM (hbox);have n2_:=aM ((by rw [hg];exact (below_size (by repeat (first|(with_reducible first|exact HB.out|apply zA|apply zN|apply zD)|exact HB.out))):w.heap.size ≤ gb311));have n3_:=aM ((by rw [hg];exact (below_size (by repeat (first|(with_reducible first|exact HB.out|apply zA|apply zN|apply zD)|exact HB.out))):w.heap.size ≤ gb311));clear HB;have HB:=n0_;have BK311:=n1_;have GW311:=n2_;have GE311:=n3_;clear n0_ n1_ n2_ n3_;clear hb hbox hg;have hcz14_0:w13.cell? ⟨gb311,0,none⟩ = some (.string a0_0):=(blk_cell BK311.out 0).trans rfl;have hcz14_1:w13.cell? ⟨gb311,1,none⟩ = some (.string a0_1):=(blk_cell BK311.out 1).trans rfl;have hfz14_0:=blk_frozen BK311.out 0;have hfz14_1:=blk_frozen BK311.out 1;have p12:0 ≤ ((ji9):Int):=of_decide_eq_true (by first|(with_reducible assumption)|assumption);have q12:(ji9) < (a0_1.size:Int):=of_decide_eq_true (by first|(with_reducible assumption)|assumption);have hx12:=bt_at a0_1 (ji9);replace p12:=eq_true p12;replace q12:=eq_true q12));try go_wp2_with (first|((with_reducible refine gate_dst (N:=2) rfl ?_);refine box_event ?hg (N:=2) ?hd (cs:=#[.string a0_0,.string a0_1]) (t:=25) ?hr ?_;(case hd=>rfl);(case hg=>rfl);(case hr=>first|(go_simp;done)|(go_simp;rfl));intro gb311 hg w13 hbox hb;have n0_:=aM (below_step (by repeat (first|(with_reducible first|exact HB.out|apply zA|apply zN|apply zD)|exact HB.out)) hb);have n1_:=aM (hbox);have n2_:=aM ((by rw [hg];exact (below_size (by repeat (first|(with_reducible first|exact HB.out|apply zA|apply zN|apply zD)|exact HB.out))):w.heap.size ≤ gb311));have n3_:=aM ((by rw [hg];exact (below_size (by repeat (first|(with_reducible first|exact HB.out|apply zA|apply zN|apply zD)|exact HB.out))):w.heap.size ≤ gb311));clear HB;have HB:=n0_;have BK311:=n1_;have GW311:=n2_;have GE311:=n3_;clear n0_ n1_ n2_ n3_;clear hb hbox hg;have hcz14_0:w13.cell? ⟨gb311,0,none⟩ = some (.string a0_0):=(blk_cell BK311.out 0).trans rfl;have hcz14_1:w13.cell? ⟨gb311,1,none⟩ = some (.string a0_1):=(blk_cell BK311.out 1).trans rfl;have hfz14_0:=blk_frozen BK311.out 0;have hfz14_1:=blk_frozen BK311.out 1;have p12:0 ≤ ((ji9):Int):=of_decide_eq_true (by first|(with_reducible assumption)|assumption);have q12:(ji9) < (a0_1.size:Int):=of_decide_eq_true (by first|(with_reducible assumption)|assumption);have hx12:=bt_at a0_1 (ji9);replace p12:=eq_true p12;replace q12:=eq_true q12)))
     go_ret
     exact ⟨by first|rfl|(simp [errW_none,errW_some] <;> rfl)|(simp only [← hji9];first|rfl|(simp [errW_none,errW_some] <;> rfl))|(simp [*,errW_none,errW_some] <;> rfl),by repeat (first|(with_reducible first|exact HB.out|apply zA|apply zN|apply zD|refine zS ?_ GE311.out)|exact HB.out)⟩
    ·rw [if_neg c11] at H
     exact absurd H (by simp)
   ·rw [if_neg c10] at H
    exact absurd H (by simp)
def impl_Sequence_rho.l0:Nat → Int → Int → Int → ByteArray → ByteArray → Option (Int)
 | 0,_,_,_,_,_=>none
 | k + 1,x1,x12,x13,x313000,x313001=>if x13 < x12 then ((impl_Sequence_at.f x313000 x313001 x13).bind fun t313=>((impl_Sequence_at.f x313000 x313001 (wrap64 (x13 + x1))).bind fun t314=>(if t313 = t314 then (impl_Sequence_rho.l0 k x1 x12 (wrap64 (x13 + 1)) x313000 x313001) else (some (wrap64 ((wrap64 (x13 + x1)) + 1)))))) else (some 0)
def impl_Sequence_rho.f (k:Nat) (a0_0:ByteArray) (a0_1:ByteArray) (a1:Int):Option (Int):=impl_Sequence_rho.l0 k a1 (wrap64 ((a0_0.size:Int) + (a0_1.size:Int))) 0 a0_0 a0_1
theorem impl_Sequence_rho.mono_l:∀ k,(∀ y0 y1 y2 y3 y4,LeO (impl_Sequence_rho.l0 k y0 y1 y2 y3 y4) (impl_Sequence_rho.l0 (k + 1) y0 y1 y2 y3 y4))
 | 0=>fun _ _ _ _ _ r h=>by simp [impl_Sequence_rho.l0] at h
 | k + 1=>by
  have ih0:=impl_Sequence_rho.mono_l k
  ·intro y0 y1 y2 y3 y4
   unfold impl_Sequence_rho.l0
   repeat' first
   | (with_reducible exact ih0 _ _ _ _ _)
   | (with_reducible exact LeO.refl _)
   | (with_reducible exact LeO.none _)
   | (with_reducible refine LeO.ite ?_ ?_)
   | (with_reducible refine LeO.bind ?_ (fun _=>?_))
   | exact ih0 _ _ _ _ _
   | exact LeO.none _
   | refine LeO.ite ?_ ?_
   | refine LeO.bind ?_ (fun _=>?_)
theorem impl_Sequence_rho.mono:∀ a0 a1 a2 k,LeO (impl_Sequence_rho.f k a0 a1 a2) (impl_Sequence_rho.f (k + 1) a0 a1 a2):=by
 intro a0 a1 a2 k
 have ih0:=impl_Sequence_rho.mono_l k
 unfold impl_Sequence_rho.f
 repeat' first
   | (with_reducible exact ih0 _ _ _ _ _)
   | (with_reducible exact LeO.refl _)
   | (with_reducible exact LeO.none _)
   | (with_reducible refine LeO.ite ?_ ?_)
   | (with_reducible refine LeO.bind ?_ (fun _=>?_))
   | exact ih0 _ _ _ _ _
   | exact LeO.none _
   | refine LeO.ite ?_ ?_
   | refine LeO.bind ?_ (fun _=>?_)
def impl_Sequence_rho.T4:Bool × List (List Nat × List Nat):=(true,[([],[]),([],[]),([0,1],[0,1]),([],[]),([],[]),([],[]),([4,5],[4,5]),([3,6,2],[3,6]),([2,7],[2,7])])
def impl_Sequence_rho.B4:List Nat:=[0,0,3,0,0,0,48,127,255]
theorem impl_Sequence_rho.tab4:rtab .any (opsOf Try.f21 4) = impl_Sequence_rho.T4:=by kernel_rfl
theorem impl_Sequence_rho.bits4:waitsOk impl_Sequence_rho.T4.2 impl_Sequence_rho.B4 = true:=by kernel_rfl
set_option maxHeartbeats 8000000 in
set_option maxRecDepth 100000 in
theorem impl_Sequence_rho.calls (k:Nat) (a0_0:ByteArray) (a0_1:ByteArray) (a1:Int) (r:Int) (w:World) (h:impl_Sequence_rho.f k a0_0 a0_1 a1 = some r) :
  Calls Try.prog 21 #[.agg #[.string a0_0,.string a0_1],.int .i64 a1] w fun e w'=>e = .returned (.int .i64 r) ∧ Below w.heap.size w w':=by
 have hu25:=Try.underlying25
 have HB:=aM (Below.refl w.heap.size w)
 have H:(impl_Sequence_rho.l0 k a1 (wrap64 ((a0_0.size:Int) + (a0_1.size:Int))) 0 a0_0 a0_1) = some r:=h
 clear h
 have H':=aM H
 clear H
 go_enter Try.func21,Try.ntmps21
 go_wp2_with (first|((with_reducible refine gate_dst (N:=2) rfl ?_);refine box_event ?hg (N:=2) ?hd (cs:=#[.string a0_0,.string a0_1]) (t:=25) ?hr ?_;(case hd=>rfl);(case hg=>rfl);(case hr=>first|(go_simp;done)|(go_simp;rfl));intro gb312 hg w3 hbox hb;have n0_:=aM (below_step (by repeat (first|(with_reducible first|exact HB.out|apply zA|apply zN|apply zD)|exact HB.out)) hb);have n1_:=aM (hbox);have n2_:=aM ((by rw [hg];exact (below_size (by repeat (first|(with_reducible first|exact HB.out|apply zA|apply zN|apply zD)|exact HB.out))):w.heap.size ≤ gb312));have n3_:=aM ((by rw [hg];exact (below_size (by repeat (first|(with_reducible first|exact HB.out|apply zA|apply zN|apply zD)|exact HB.out))):w.heap.size ≤ gb312));clear HB;have HB:=n0_;have BK312:=n1_;have GW312:=n2_;have GE312:=n3_;clear n0_ n1_ n2_ n3_;clear hb hbox hg;have hcz4_0:w3.cell? ⟨gb312,0,none⟩ = some (.string a0_0):=(blk_cell BK312.out 0).trans rfl;have hcz4_1:w3.cell? ⟨gb312,1,none⟩ = some (.string a0_1):=(blk_cell BK312.out 1).trans rfl;have hfz4_0:=blk_frozen BK312.out 0;have hfz4_1:=blk_frozen BK312.out 1))
 go_loopg [13] k (fun kq v13 w'=>∃ (x13_1:Int),v13 = .int .i64 x13_1 ∧ Aside0 (impl_Sequence_rho.l0 kq a1 (wrap64 ((a0_0.size:Int) + (a0_1.size:Int))) x13_1 a0_0 a0_1 = some r) ∧ Aside0 (kq ≤ k) ∧ Aside0 (w'.heap[gb312]? = some (.cells #[.string a0_0,.string a0_1] 25 (0,0))) ∧ Aside0 (Below w.heap.size w w'))
 case atStart=>exact ⟨(0),(by first|rfl|(simp;done)|(simp [*];done)),H',⟨Nat.le_refl _⟩,⟨by (with_reducible repeat (first|apply yN|apply yD|apply yA));exact BK312.out⟩,⟨by repeat (first|(with_reducible first|exact HB.out|apply zA|apply zN|apply zD|refine zS ?_ GE312.out)|exact HB.out)⟩⟩
 case round =>
  clear H'
  try clear c2
  try clear p2
  try clear hcz4_0
  try clear hcz4_1
  try clear hfz4_0
  try clear hfz4_1
  obtain ⟨x13_1,rfl,HA,HK1,BK312,HB⟩:=hrel
  cases gk with
  | zero=>exact absurd HA.out (by simp [impl_Sequence_rho.l0])
  | succ k1 =>
   have H:=HA.out
   clear HA
   simp only [impl_Sequence_rho.l0] at H
   by_cases c5:x13_1 < (wrap64 ((a0_0.size:Int) + (a0_1.size:Int)))
   ·rw [if_pos c5] at H
    have c5b0:decide (x13_1 < (wrap64 ((a0_0.size:Int) + (a0_1.size:Int)))) = true:=decide_eq_true c5
    clear c5
    replace H:=Option.bind_eq_some_iff.mp H
    obtain ⟨t313,A60,H⟩:=H
    replace H:((impl_Sequence_at.f a0_0 a0_1 (wrap64 (x13_1 + a1))).bind fun t314=>(if t313 = t314 then (impl_Sequence_rho.l0 k1 a1 (wrap64 ((a0_0.size:Int) + (a0_1.size:Int))) (wrap64 (x13_1 + 1)) a0_0 a0_1) else (some (wrap64 ((wrap64 (x13_1 + a1)) + 1))))) = some r:=H
    have A6:=aM A60
    clear A60
    replace H:=Option.bind_eq_some_iff.mp H
    obtain ⟨t314,A70,H⟩:=H
    replace H:(if t313 = t314 then (impl_Sequence_rho.l0 k1 a1 (wrap64 ((a0_0.size:Int) + (a0_1.size:Int))) (wrap64 (x13_1 + 1)) a0_0 a0_1) else (some (wrap64 ((wrap64 (x13_1 + a1)) + 1)))) = some r:=H
    have A7:=aM A70
    clear A70
    by_cases c8:t313 = t314
    ·rw [if_pos c8] at H
     have c8b0:(t313 == t314) = true:=beq_iff_eq.mpr c8
     have c8b1:(t313 != t314) = false:=bne_eq_false_iff_eq.mpr c8
     clear c8
     have H':=aM H
     clear H
     try go_wp2
     replace BK312:=aM (yD BK312.out)
     replace HB:=aM (zD HB.out)
     refine start_ (n:=9) (S:=fun w'=>w'.cell? ⟨gb312,0,none⟩ = some (.string a0_0) ∧ w'.cell? ⟨gb312,1,none⟩ = some (.string a0_1)) (ds:=[]) #[fF,fF,fF,fF,fF,fF,fF,fF,fF] (by kernel_rfl) rfl rfl ⟨(blk_cell BK312.out 0).trans rfl,(blk_cell BK312.out 1).trans rfl⟩ (fun hHeld=>?_);refine with_tabW impl_Sequence_rho.tab4 impl_Sequence_rho.bits4 (fun HT_ HW_=>?_)
     generalize wr.drew = w9 at BK312 HB hHeld ⊢
     refine pure_ (i:=1) (N:=some 17) (v:=?_) (a':=?_) #[fF,tT,fF,fF,fF,fF,fF,fF,fF] rfl rfl (any_of HT_.out (by kernel_rfl)) (fun _ _ _ h=>h) (Or.inl ⟨by rfl,?_⟩) ?_ ?_
     rotate_left
     ·intro w'
      go_simp
      with_reducible rfl
     rotate_left
     ·simp only [Act.put,sI,sZ,sS,i64_w,i32_w]
      rfl
     refine pure_ (i:=4) (N:=some 20) (v:=?_) (a':=?_) #[fF,tT,fF,fF,tT,fF,fF,fF,fF] rfl rfl (any_of HT_.out (by kernel_rfl)) (fun _ _ _ h=>h) (Or.inl ⟨by rfl,?_⟩) ?_ ?_
     rotate_left
     ·intro w'
      go_simp
      with_reducible rfl
     rotate_left
     ·simp only [Act.put,sI,sZ,sS,i64_w,i32_w]
      rfl
     refine pure_ (i:=5) (N:=some 21) (v:=?_) (a':=?_) #[fF,tT,fF,fF,tT,tT,fF,fF,fF] rfl rfl (any_of HT_.out (by kernel_rfl)) (fun _ _ _ h=>h) (Or.inl ⟨by rfl,?_⟩) ?_ ?_
     rotate_left
     ·intro w'
      go_simp
      with_reducible rfl
     rotate_left
     ·simp only [Act.put,sI,sZ,sS,i64_w,i32_w]
      rfl
     refine pure_ (i:=6) (N:=some 22) (v:=?_) (a':=?_) #[fF,tT,fF,fF,tT,tT,tT,fF,fF] rfl rfl (any_of HT_.out (by kernel_rfl)) (fun _ _ _ h=>h) (Or.inl ⟨by rfl,?_⟩) ?_ ?_
     rotate_left
     ·intro w'
      go_simp
      with_reducible rfl
     rotate_left
     ·simp only [Act.put,sI,sZ,sS,i64_w,i32_w]
      rfl
     refine take_ (i:=0) (N:=some 16) (v:=?_) (a':=?_) #[tT,tT,fF,fF,tT,tT,tT,fF,fF] rfl rfl (take_ofW HT_.out HW_.out (by kernel_rfl)) (fun _ _ _ h=>h) (Or.inl ⟨by rfl,?_⟩) hHeld ?_ ?_
     rotate_left
     ·rintro w' ⟨s0,s1⟩
      go_simp
      with_reducible rfl
     rotate_left
     ·simp only [Act.put,sI,sZ,sS,i64_w,i32_w]
      rfl
     refine take_ (i:=3) (N:=some 19) (v:=?_) (a':=?_) #[tT,tT,fF,tT,tT,tT,tT,fF,fF] rfl rfl (take_ofW HT_.out HW_.out (by kernel_rfl)) (fun _ _ _ h=>h) (Or.inl ⟨by rfl,?_⟩) hHeld ?_ ?_
     rotate_left
     ·rintro w' ⟨s0,s1⟩
      go_simp
      with_reducible rfl
     rotate_left
     ·simp only [Act.put,sI,sZ,sS,i64_w,i32_w]
      rfl
     refine one_ (i:=2) (N:=some 18) #[tT,tT,tT,tT,tT,tT,tT,fF,fF] rfl rfl (one_of HT_.out (by kernel_rfl)) (by decide) (fun K hK=>?_)
     refine goes_ Try.func38 (by kernel_rfl) rfl #[.agg #[.string a0_0,.string a0_1],.int .i64 x13_1] (by rfl) rfl rfl (by (try simp only [sM,sC,sN]);first|done|rfl|(simp only [List.length_drop,List.length_take];rfl)) ?_
     with_reducible refine (impl_Sequence_at.calls a0_0 a0_1 x13_1 t313 _ A6.out).mono ?_
     rintro e w10 ⟨rfl,hb⟩
     refine ⟨_,rfl,?_⟩
     replace BK312:=aM (blk_below (g:=gb312) (o:=.cells #[.string a0_0,.string a0_1] 25 (0,0)) (by (with_reducible repeat (first|apply yN|apply yD|apply yA));exact BK312.out) hb)
     replace HB:=aM (below_step (by repeat (first|(with_reducible first|exact HB.out|apply zA|apply zN|apply zD|refine zS ?_ GE312.out)|exact HB.out)) hb)
     (try clear hb)
     refine hK.out _ _ ⟨(blk_cell BK312.out 0).trans rfl,(blk_cell BK312.out 1).trans rfl⟩ (fun hHeld=>?_)
     clear hK K
     refine norm_ (a':=?_) ?_ ?_
     rotate_left
     ·show Act.put _ (some 18) _ = _
      simp only [Act.put,sI,sZ,sS,i64_w,i32_w]
      rfl
     refine one_ (i:=7) (N:=some 23) #[tT,tT,tT,tT,tT,tT,tT,tT,fF] rfl rfl (one_of HT_.out (by kernel_rfl)) (by decide) (fun K hK=>?_)
     refine goes_ Try.func38 (by kernel_rfl) rfl #[.agg #[.string a0_0,.string a0_1],.int .i64 (wrap64 (x13_1 + a1))] (by rfl) rfl rfl (by (try simp only [sM,sC,sN]);first|done|rfl|(simp only [List.length_drop,List.length_take];rfl)) ?_
     with_reducible refine (impl_Sequence_at.calls a0_0 a0_1 (wrap64 (x13_1 + a1)) t314 _ A7.out).mono ?_
     rintro e w11 ⟨rfl,hb⟩
     refine ⟨_,rfl,?_⟩
     replace BK312:=aM (blk_below (g:=gb312) (o:=.cells #[.string a0_0,.string a0_1] 25 (0,0)) (by (with_reducible repeat (first|apply yN|apply yD|apply yA));exact BK312.out) hb)
     replace HB:=aM (below_step (by repeat (first|(with_reducible first|exact HB.out|apply zA|apply zN|apply zD|refine zS ?_ GE312.out)|exact HB.out)) hb)
     (try clear hb)
     refine hK.out _ _ ⟨(blk_cell BK312.out 0).trans rfl,(blk_cell BK312.out 1).trans rfl⟩ (fun hHeld=>?_)
     clear hK K
     refine norm_ (a':=?_) ?_ ?_
     rotate_left
     ·show Act.put _ (some 23) _ = _
      simp only [Act.put,sI,sZ,sS,i64_w,i32_w]
      rfl
     refine pure_ (i:=8) (N:=some 24) (v:=?_) (a':=?_) #[tT,tT,tT,tT,tT,tT,tT,tT,tT] rfl rfl (any_of HT_.out (by kernel_rfl)) (fun _ _ _ h=>h) (Or.inl ⟨by rfl,?_⟩) ?_ ?_
     rotate_left
     ·intro w'
      go_simp
      with_reducible rfl
     rotate_left
     ·simp only [Act.put,sI,sZ,sS,i64_w,i32_w]
      rfl
     refine done_ (done_of HT_.out (by kernel_rfl)) ?_
     try go_wp2
     go_roundg k1
     case measure=>have:=HK1.out;omega
     case rel=>exact ⟨(wrap64 (x13_1 + 1)),(by first|rfl|(simp;done)|(simp [*];done)),H',⟨by have:=HK1.out;omega⟩,⟨by (with_reducible repeat (first|apply yN|apply yD|apply yA));exact BK312.out⟩,⟨by repeat (first|(with_reducible first|exact HB.out|apply zA|apply zN|apply zD|refine zS ?_ GE312.out)|exact HB.out)⟩⟩
    ·rw [if_neg c8] at H
     have c8b0:(t313 == t314) = false:=beq_eq_false_iff_ne.mpr c8
     have c8b1:(t313 != t314) = true:=bne_iff_ne.mpr c8
     obtain rfl:=Option.some.inj H
     try go_wp2
     replace BK312:=aM (yD BK312.out)
     replace HB:=aM (zD HB.out)
     refine start_ (n:=9) (S:=fun w'=>w'.cell? ⟨gb312,0,none⟩ = some (.string a0_0) ∧ w'.cell? ⟨gb312,1,none⟩ = some (.string a0_1)) (ds:=[]) #[fF,fF,fF,fF,fF,fF,fF,fF,fF] (by kernel_rfl) rfl rfl ⟨(blk_cell BK312.out 0).trans rfl,(blk_cell BK312.out 1).trans rfl⟩ (fun hHeld=>?_);refine with_tabW impl_Sequence_rho.tab4 impl_Sequence_rho.bits4 (fun HT_ HW_=>?_)
     generalize wr.drew = w12 at BK312 HB hHeld ⊢
     refine pure_ (i:=1) (N:=some 17) (v:=?_) (a':=?_) #[fF,tT,fF,fF,fF,fF,fF,fF,fF] rfl rfl (any_of HT_.out (by kernel_rfl)) (fun _ _ _ h=>h) (Or.inl ⟨by rfl,?_⟩) ?_ ?_
     rotate_left
     ·intro w'
      go_simp
      with_reducible rfl
     rotate_left
     ·simp only [Act.put,sI,sZ,sS,i64_w,i32_w]
      rfl
     refine pure_ (i:=4) (N:=some 20) (v:=?_) (a':=?_) #[fF,tT,fF,fF,tT,fF,fF,fF,fF] rfl rfl (any_of HT_.out (by kernel_rfl)) (fun _ _ _ h=>h) (Or.inl ⟨by rfl,?_⟩) ?_ ?_
     rotate_left
     ·intro w'
      go_simp
      with_reducible rfl
     rotate_left
     ·simp only [Act.put,sI,sZ,sS,i64_w,i32_w]
      rfl
     refine pure_ (i:=5) (N:=some 21) (v:=?_) (a':=?_) #[fF,tT,fF,fF,tT,tT,fF,fF,fF] rfl rfl (any_of HT_.out (by kernel_rfl)) (fun _ _ _ h=>h) (Or.inl ⟨by rfl,?_⟩) ?_ ?_
     rotate_left
     ·intro w'
      go_simp
      with_reducible rfl
     rotate_left
     ·simp only [Act.put,sI,sZ,sS,i64_w,i32_w]
      rfl
     refine pure_ (i:=6) (N:=some 22) (v:=?_) (a':=?_) #[fF,tT,fF,fF,tT,tT,tT,fF,fF] rfl rfl (any_of HT_.out (by kernel_rfl)) (fun _ _ _ h=>h) (Or.inl ⟨by rfl,?_⟩) ?_ ?_
     rotate_left
     ·intro w'
      go_simp
      with_reducible rfl
     rotate_left
     ·simp only [Act.put,sI,sZ,sS,i64_w,i32_w]
      rfl
     refine take_ (i:=0) (N:=some 16) (v:=?_) (a':=?_) #[tT,tT,fF,fF,tT,tT,tT,fF,fF] rfl rfl (take_ofW HT_.out HW_.out (by kernel_rfl)) (fun _ _ _ h=>h) (Or.inl ⟨by rfl,?_⟩) hHeld ?_ ?_
     rotate_left
     ·rintro w' ⟨s0,s1⟩
      go_simp
      with_reducible rfl
     rotate_left
     ·simp only [Act.put,sI,sZ,sS,i64_w,i32_w]
      rfl
     refine take_ (i:=3) (N:=some 19) (v:=?_) (a':=?_) #[tT,tT,fF,tT,tT,tT,tT,fF,fF] rfl rfl (take_ofW HT_.out HW_.out (by kernel_rfl)) (fun _ _ _ h=>h) (Or.inl ⟨by rfl,?_⟩) hHeld ?_ ?_
     rotate_left
     ·rintro w' ⟨s0,s1⟩
      go_simp
      with_reducible rfl
     rotate_left
     ·simp only [Act.put,sI,sZ,sS,i64_w,i32_w]
      rfl
     refine one_ (i:=2) (N:=some 18) #[tT,tT,tT,tT,tT,tT,tT,fF,fF] rfl rfl (one_of HT_.out (by kernel_rfl)) (by decide) (fun K hK=>?_)
     refine goes_ Try.func38 (by kernel_rfl) rfl #[.agg #[.string a0_0,.string a0_1],.int .i64 x13_1] (by rfl) rfl rfl (by (try simp only [sM,sC,sN]);first|done|rfl|(simp only [List.length_drop,List.length_take];rfl)) ?_
     with_reducible refine (impl_Sequence_at.calls a0_0 a0_1 x13_1 t313 _ A6.out).mono ?_
     rintro e w13 ⟨rfl,hb⟩
     refine ⟨_,rfl,?_⟩
     replace BK312:=aM (blk_below (g:=gb312) (o:=.cells #[.string a0_0,.string a0_1] 25 (0,0)) (by (with_reducible repeat (first|apply yN|apply yD|apply yA));exact BK312.out) hb)
     replace HB:=aM (below_step (by repeat (first|(with_reducible first|exact HB.out|apply zA|apply zN|apply zD|refine zS ?_ GE312.out)|exact HB.out)) hb)
     (try clear hb)
     refine hK.out _ _ ⟨(blk_cell BK312.out 0).trans rfl,(blk_cell BK312.out 1).trans rfl⟩ (fun hHeld=>?_)
     clear hK K
     refine norm_ (a':=?_) ?_ ?_
     rotate_left
     ·show Act.put _ (some 18) _ = _
      simp only [Act.put,sI,sZ,sS,i64_w,i32_w]
      rfl
     refine one_ (i:=7) (N:=some 23) #[tT,tT,tT,tT,tT,tT,tT,tT,fF] rfl rfl (one_of HT_.out (by kernel_rfl)) (by decide) (fun K hK=>?_)
     refine goes_ Try.func38 (by kernel_rfl) rfl #[.agg #[.string a0_0,.string a0_1],.int .i64 (wrap64 (x13_1 + a1))] (by rfl) rfl rfl (by (try simp only [sM,sC,sN]);first|done|rfl|(simp only [List.length_drop,List.length_take];rfl)) ?_
     with_reducible refine (impl_Sequence_at.calls a0_0 a0_1 (wrap64 (x13_1 + a1)) t314 _ A7.out).mono ?_
     rintro e w14 ⟨rfl,hb⟩
     refine ⟨_,rfl,?_⟩
     replace BK312:=aM (blk_below (g:=gb312) (o:=.cells #[.string a0_0,.string a0_1] 25 (0,0)) (by (with_reducible repeat (first|apply yN|apply yD|apply yA));exact BK312.out) hb)
     replace HB:=aM (below_step (by repeat (first|(with_reducible first|exact HB.out|apply zA|apply zN|apply zD|refine zS ?_ GE312.out)|exact HB.out)) hb)
     (try clear hb)
     refine hK.out _ _ ⟨(blk_cell BK312.out 0).trans rfl,(blk_cell BK312.out 1).trans rfl⟩ (fun hHeld=>?_)
     clear hK K
     refine norm_ (a':=?_) ?_ ?_
     rotate_left
     ·show Act.put _ (some 23) _ = _
      simp only [Act.put,sI,sZ,sS,i64_w,i32_w]
      rfl
     refine pure_ (i:=8) (N:=some 24) (v:=?_) (a':=?_) #[tT,tT,tT,tT,tT,tT,tT,tT,tT] rfl rfl (any_of HT_.out (by kernel_rfl)) (fun _ _ _ h=>h) (Or.inl ⟨by rfl,?_⟩) ?_ ?_
     rotate_left
     ·intro w'
      go_simp
      with_reducible rfl
     rotate_left
     ·simp only [Act.put,sI,sZ,sS,i64_w,i32_w]
      rfl
     refine done_ (done_of HT_.out (by kernel_rfl)) ?_
     try go_wp2
     go_ret
     exact ⟨by first|rfl|(simp [errW_none,errW_some] <;> rfl)|(simp [*,errW_none,errW_some] <;> rfl),by repeat (first|(with_reducible first|exact HB.out|apply zA|apply zN|apply zD|refine zS ?_ GE312.out)|exact HB.out)⟩
   ·rw [if_neg c5] at H
    have c5b0:decide (x13_1 < (wrap64 ((a0_0.size:Int) + (a0_1.size:Int)))) = false:=decide_eq_false c5
    clear c5
    obtain rfl:=Option.some.inj H
    go_wp2
    go_ret
    exact ⟨by first|rfl|(simp [errW_none,errW_some] <;> rfl)|(simp [*,errW_none,errW_some] <;> rfl),by repeat (first|(with_reducible first|exact HB.out|apply zA|apply zN|apply zD|refine zS ?_ GE312.out)|exact HB.out)⟩
def impl_RhoOf.f (k:Nat) (a0_0:ByteArray) (a0_1:ByteArray) (a1:Int):Option (Int × Int):=(impl_within.f a1 1 1000).bind fun t316=>((impl_sequencesCode.f k t316 (([(⟨a0_0,a0_1⟩:S25)]:List (S25)))).bind fun t320=>(if t320 = 0 then ((impl_Sequence_rho.f k a0_0 a0_1 a1).bind fun t321=>(if t321 = 0 then (some (0,4)) else (some (t321,0)))) else (some (0,t320))))
theorem impl_RhoOf.mono:∀ a0 a1 a2 k,LeO (impl_RhoOf.f k a0 a1 a2) (impl_RhoOf.f (k + 1) a0 a1 a2):=by
 intro a0 a1 a2 k
 unfold impl_RhoOf.f
 repeat' first
   | (with_reducible exact impl_Sequence_rho.mono _ _ _ _)
   | (with_reducible exact impl_sequencesCode.mono _ _ _)
   | (with_reducible exact LeO.refl _)
   | (with_reducible exact LeO.none _)
   | (with_reducible refine LeO.ite ?_ ?_)
   | (with_reducible refine LeO.bind ?_ (fun _=>?_))
   | exact impl_Sequence_rho.mono _ _ _ _
   | exact impl_sequencesCode.mono _ _ _
   | exact LeO.none _
   | refine LeO.ite ?_ ?_
   | refine LeO.bind ?_ (fun _=>?_)
set_option maxHeartbeats 8000000 in
set_option maxRecDepth 100000 in
theorem impl_RhoOf.calls (k:Nat) (a0_0:ByteArray) (a0_1:ByteArray) (a1:Int) (r1:Int) (r2:Int) (w:World) (h:impl_RhoOf.f k a0_0 a0_1 a1 = some (r1,r2)) :
  Calls Try.prog 6 #[.agg #[.string a0_0,.string a0_1],.int .i64 a1] w fun e w'=>e = .returned (.tuple #[.int .i64 r1,.int .i64 r2]) ∧ Below w.heap.size w w':=by
 have hu25:=Try.underlying25
 have HB:=aM (Below.refl w.heap.size w)
 have H:((impl_within.f a1 1 1000).bind fun t316=>((impl_sequencesCode.f k t316 (([(⟨a0_0,a0_1⟩:S25)]:List (S25)))).bind fun t320=>(if t320 = 0 then ((impl_Sequence_rho.f k a0_0 a0_1 a1).bind fun t321=>(if t321 = 0 then (some (0,4)) else (some (t321,0)))) else (some (0,t320))))) = some (r1,r2):=h
 clear h
 replace H:=Option.bind_eq_some_iff.mp H
 obtain ⟨t316,A30,H⟩:=H
 replace H:((impl_sequencesCode.f k t316 (([(⟨a0_0,a0_1⟩:S25)]:List (S25)))).bind fun t320=>(if t320 = 0 then ((impl_Sequence_rho.f k a0_0 a0_1 a1).bind fun t321=>(if t321 = 0 then (some (0,4)) else (some (t321,0)))) else (some (0,t320)))) = some (r1,r2):=H
 have A3:=aM A30
 clear A30
 obtain ⟨y317,hy317⟩:∃ y_:List (S25),y_ = (([(⟨a0_0,a0_1⟩:S25)]:List (S25))):=⟨_,rfl⟩
 replace H:((impl_sequencesCode.f k t316 y317).bind fun t320=>(if t320 = 0 then ((impl_Sequence_rho.f k a0_0 a0_1 a1).bind fun t321=>(if t321 = 0 then (some (0,4)) else (some (t321,0)))) else (some (0,t320)))) = some (r1,r2):=by first|(rw [hy317];with_reducible exact H)|(have H2_:=(Option.bind_some _ _).symm.trans H;rw [hy317];with_reducible exact H2_)|(have H2_:=(Option.bind_some _ _).symm.trans H;with_reducible exact H2_)|with_reducible exact H|(rw [hy317];exact H)|exact H
 have Ny317:=aM hy317
 clear hy317
 replace H:=Option.bind_eq_some_iff.mp H
 obtain ⟨t320,A40,H⟩:=H
 replace H:(if t320 = 0 then ((impl_Sequence_rho.f k a0_0 a0_1 a1).bind fun t321=>(if t321 = 0 then (some (0,4)) else (some (t321,0)))) else (some (0,t320))) = some (r1,r2):=H
 have A4:=aM A40
 clear A40
 by_cases c5:t320 = 0
 ·rw [if_pos c5] at H
  have c5b0:(t320 == 0) = true:=beq_iff_eq.mpr c5
  have c5b1:(t320 != 0) = false:=bne_eq_false_iff_eq.mpr c5
  clear c5
  replace H:=Option.bind_eq_some_iff.mp H
  obtain ⟨t321,A60,H⟩:=H
  replace H:(if t321 = 0 then (some (0,4)) else (some (t321,0))) = some (r1,r2):=H
  have A6:=aM A60
  clear A60
  by_cases c7:t321 = 0
  ·rw [if_pos c7] at H
   have c7b0:(t321 == 0) = true:=beq_iff_eq.mpr c7
   have c7b1:(t321 != 0) = false:=bne_eq_false_iff_eq.mpr c7
   clear c7
   simp only [Option.some.injEq,Prod.mk.injEq] at H
   obtain ⟨rfl,rfl⟩:=H
   go_enter Try.func6,Try.ntmps6
   try go_wp2_with (first|((with_reducible refine gate_dst (N:=2) rfl ?_);refine box_event ?hg (N:=2) ?hd (cs:=#[.string a0_0,.string a0_1]) (t:=25) ?hr ?_;(case hd=>rfl);(case hg=>rfl);(case hr=>first|(go_simp;done)|(go_simp;rfl));intro gb315 hg w8 hbox hb;have n0_:=aM (below_step HB.out hb);have n1_:=aM (hbox);have n2_:=aM ((by rw [hg];exact (below_size HB.out):w.heap.size ≤ gb315));have n3_:=aM ((by rw [hg];exact (below_size HB.out):w.heap.size ≤ gb315));clear HB;have HB:=n0_;have BK315:=n1_;have GW315:=n2_;have GE315:=n3_;clear n0_ n1_ n2_ n3_;clear hb hbox hg))
   replace BK315:=aM (yD BK315.out)
   replace HB:=aM (zD HB.out)
   refine start_ (n:=6) (S:=fun w'=>w'.cell? ⟨gb315,0,none⟩ = some (.string a0_0) ∧ w'.cell? ⟨gb315,1,none⟩ = some (.string a0_1)) (ds:=[]) #[fF,fF,fF,fF,fF,fF] (by kernel_rfl) rfl rfl ⟨(blk_cell BK315.out 0).trans rfl,(blk_cell BK315.out 1).trans rfl⟩ (fun hHeld=>?_)
   generalize w8.drew = w9 at BK315 HB hHeld ⊢
   refine pure_ (i:=0) (N:=some 8) (v:=?_) (a':=?_) #[tT,fF,fF,fF,fF,fF] rfl rfl (by kernel_rfl) (fun _ _ _ h=>h) (Or.inl ⟨by rfl,?_⟩) ?_ ?_
   rotate_left
   ·intro w'
    go_simp
    with_reducible rfl
   rotate_left
   ·simp only [Act.put,sI,sZ,sS,i64_w,i32_w]
    rfl
   refine take_ (i:=2) (N:=some 10) (v:=?_) (a':=?_) #[tT,fF,tT,fF,fF,fF] rfl rfl (by kernel_rfl) (fun _ _ _ h=>h) (Or.inl ⟨by rfl,?_⟩) hHeld ?_ ?_
   rotate_left
   ·rintro w' ⟨s0,s1⟩
    go_simp
    with_reducible rfl
   rotate_left
   ·simp only [Act.put,sI,sZ,sS,i64_w,i32_w]
    rfl
   refine join_ (σ:=Value) 2 #[true,true,true,true,false,false] (fun s_=>[(9,.bool t316),(11,s_)]) (fun s_ w'=>(w'.cell? ⟨gb315,0,none⟩ = some (.string a0_0) ∧ w'.cell? ⟨gb315,1,none⟩ = some (.string a0_1)) ∧ (Kd.R k25 25 w' w.heap.size (fun k_=>k_ ≠ gb315) s_ y317) ∧ (w'.heap[gb315]? = some (.cells #[.string a0_0,.string a0_1] 25 (0,0))) ∧ (Below w.heap.size w w')) ?_ ?_
   rotate_left
   ·intro hCont
    refine two_ (i:=1) (j:=3) (Ni:=some 9) (Nj:=some 11) #[true,true,true,false,false,false] #[true,false,true,true,false,false] rfl rfl rfl rfl (by kernel_rfl) (by decide) (by decide) (fun K hK=>?_) (fun K hK=>?_)
    ·skip
     refine goes_ Try.func20 (by kernel_rfl) rfl #[.int .i64 a1,.int .i64 1,.int .i64 1000] (by rfl) rfl rfl (by (try simp only [sM,sC,sN]);first|done|rfl|(simp only [List.length_drop,List.length_take];rfl)) ?_
     with_reducible refine (impl_within.calls a1 1 1000 t316 _ A3.out).mono ?_
     rintro e w' ⟨rfl,⟨nd,rfl⟩⟩
     refine ⟨_,rfl,?_⟩
     refine hK.out _ _ ⟨(blk_cell BK315.out 0).trans rfl,(blk_cell BK315.out 1).trans rfl⟩ (fun hHeld=>?_)
     clear hK K
     refine norm_ (a':=?_) ?_ ?_
     rotate_left
     ·show Act.put _ (some 9) _ = _
      simp only [Act.put,sI,sZ,sS,i64_w,i32_w]
      rfl
     refine one_ (i:=3) (N:=some 11) #[tT,tT,tT,tT,fF,fF] rfl rfl (by kernel_rfl) (by decide) (fun K hK=>?_)
     refine Kd.R_lit_step k25 _ 25 ?hg (N:=11) ?hd (xs:=([(⟨a0_0,a0_1⟩:S25)]:List (S25))) (inner:=[.string a0_0,.string a0_1]) (ok:=fun _=>True) (okp:=fun _=>True) ?hr ?hp (fun _ hk=>hk) trivial (Below.refl _ _) (Nat.le_refl _) (by simp) ?_;(case hd=>rfl);(case hg=>rfl);(case hr=>first|(go_simp;done)|(go_simp;rfl));(case hp=>exact (Reps.c2 (show Kd.M k25 _ _ _ (⟨a0_0,a0_1⟩:S25) [.string a0_0,.string a0_1] from (k25_mkM _ _ _ (⟨a0_0,a0_1⟩:S25) )) (Reps.none _ _)))
     intro v318 w10 ho11 hb hg_ hnew_
     clear hg_ hnew_
     (first|rw [← Ny317.out] at ho11|(simp only [Int.reduceToNat] at ho11;rw [← Ny317.out] at ho11))
     have HO319:=aM (Kd.R_lower (Kd.R_newB ho11 (g:=gb315) (o:=.cells #[.string a0_0,.string a0_1] 25 (0,0)) (by (with_reducible repeat (first|apply yN|apply yD|apply yA));exact BK315.out)) (below_size (by repeat (first|(with_reducible first|exact HB.out|apply zA|apply zN|apply zD|refine zS ?_ GE315.out)|exact HB.out))))
     replace BK315:=aM (blk_below (g:=gb315) (o:=.cells #[.string a0_0,.string a0_1] 25 (0,0)) (by (with_reducible repeat (first|apply yN|apply yD|apply yA));exact BK315.out) hb)
     replace HB:=aM (below_step (by repeat (first|(with_reducible first|exact HB.out|apply zA|apply zN|apply zD|refine zS ?_ GE315.out)|exact HB.out)) hb)
     clear hb ho11
     refine hK.out _ _ ⟨(blk_cell BK315.out 0).trans rfl,(blk_cell BK315.out 1).trans rfl⟩ (fun hHeld=>?_)
     clear hK K
     refine norm_ (a':=?_) ?_ ?_
     rotate_left
     ·show Act.put _ (some 11) _ = _
      simp only [Act.put,sI,sZ,sS,i64_w,i32_w]
      rfl
     exact norm_ (by simp only [putAll,Act.put,sI,sZ,sS]) (hCont (v318) _ ⟨hHeld,(by (with_reducible repeat (first|apply rA|apply rN|apply rD));exact Kd.R_mono HO319.out (fun _ hk=>hk.2)),BK315.out,HB.out⟩)
    ·skip
     refine Kd.R_lit_step k25 _ 25 ?hg (N:=11) ?hd (xs:=([(⟨a0_0,a0_1⟩:S25)]:List (S25))) (inner:=[.string a0_0,.string a0_1]) (ok:=fun _=>True) (okp:=fun _=>True) ?hr ?hp (fun _ hk=>hk) trivial (Below.refl _ _) (Nat.le_refl _) (by simp) ?_;(case hd=>rfl);(case hg=>rfl);(case hr=>first|(go_simp;done)|(go_simp;rfl));(case hp=>exact (Reps.c2 (show Kd.M k25 _ _ _ (⟨a0_0,a0_1⟩:S25) [.string a0_0,.string a0_1] from (k25_mkM _ _ _ (⟨a0_0,a0_1⟩:S25) )) (Reps.none _ _)))
     intro v318 w10 ho11 hb hg_ hnew_
     clear hg_ hnew_
     (first|rw [← Ny317.out] at ho11|(simp only [Int.reduceToNat] at ho11;rw [← Ny317.out] at ho11))
     have HO319:=aM (Kd.R_lower (Kd.R_newB ho11 (g:=gb315) (o:=.cells #[.string a0_0,.string a0_1] 25 (0,0)) BK315.out) (below_size HB.out))
     replace BK315:=aM (blk_below (g:=gb315) (o:=.cells #[.string a0_0,.string a0_1] 25 (0,0)) BK315.out hb)
     replace HB:=aM (below_step HB.out hb)
     clear hb ho11
     refine hK.out _ _ ⟨(blk_cell BK315.out 0).trans rfl,(blk_cell BK315.out 1).trans rfl⟩ (fun hHeld=>?_)
     clear hK K
     refine norm_ (a':=?_) ?_ ?_
     rotate_left
     ·show Act.put _ (some 11) _ = _
      simp only [Act.put,sI,sZ,sS,i64_w,i32_w]
      rfl
     refine one_ (i:=1) (N:=some 9) #[tT,tT,tT,tT,fF,fF] rfl rfl (by kernel_rfl) (by decide) (fun K hK=>?_)
     refine goes_ Try.func20 (by kernel_rfl) rfl #[.int .i64 a1,.int .i64 1,.int .i64 1000] (by rfl) rfl rfl (by (try simp only [sM,sC,sN]);first|done|rfl|(simp only [List.length_drop,List.length_take];rfl)) ?_
     with_reducible refine (impl_within.calls a1 1 1000 t316 _ A3.out).mono ?_
     rintro e w' ⟨rfl,⟨nd,rfl⟩⟩
     refine ⟨_,rfl,?_⟩
     refine hK.out _ _ ⟨(blk_cell BK315.out 0).trans rfl,(blk_cell BK315.out 1).trans rfl⟩ (fun hHeld=>?_)
     clear hK K
     refine norm_ (a':=?_) ?_ ?_
     rotate_left
     ·show Act.put _ (some 9) _ = _
      simp only [Act.put,sI,sZ,sS,i64_w,i32_w]
      rfl
     exact norm_ (by simp only [putAll,Act.put,sI,sZ,sS]) (hCont (v318) _ ⟨hHeld,(by (with_reducible repeat (first|apply rA|apply rN|apply rD));exact Kd.R_mono HO319.out (fun _ hk=>hk.2)),(by (with_reducible repeat (first|apply yN|apply yD|apply yA));exact BK315.out),(by repeat (first|(with_reducible first|exact HB.out|apply zA|apply zN|apply zD|refine zS ?_ GE315.out)|exact HB.out))⟩)
   rintro v318 w12 ⟨hS_,h0_,h1_,h2_⟩
   have n0_:Aside0 (Kd.R k25 25 w12 w.heap.size (fun k_=>k_ ≠ gb315) v318 y317):=⟨h0_⟩
   have n1_:Aside0 (w12.heap[gb315]? = some (.cells #[.string a0_0,.string a0_1] 25 (0,0))):=⟨h1_⟩
   have n2_:Aside0 (Below w.heap.size w w12):=⟨h2_⟩
   clear BK315
   clear HB
   clear h0_ h1_ h2_
   have HO319:=n0_
   have BK315:=n1_
   have HB:=n2_
   clear n0_ n1_ n2_
   have hHeld:w12.cell? ⟨gb315,0,none⟩ = some (.string a0_0) ∧ w12.cell? ⟨gb315,1,none⟩ = some (.string a0_1):=hS_
   obtain ⟨Ao13,co13,eo13⟩:=Kd.R_slice HO319.out
   (first|subst eo13|(injection eo13 with f1_ f2_ f3_;have f4_:=f1_.symm;have f5_:=f3_.symm;clear f1_ f2_ f3_;subst f4_;subst f5_))
   refine norm_ (a':=?_) ?_ ?_
   rotate_left
   ·simp only [putAll,Act.put,sI,sZ,sS]
    rfl
   refine one_ (i:=4) (N:=some 12) #[tT,tT,tT,tT,tT,fF] rfl rfl (by kernel_rfl) (by decide) (fun K hK=>?_)
   refine goes_ Try.func19 (by kernel_rfl) rfl #[.bool t316,.slice Ao13 y317.length co13] (by rfl) rfl rfl (by (try simp only [sM,sC,sN]);first|done|rfl|(simp only [List.length_drop,List.length_take];rfl)) ?_
   with_reducible refine (impl_sequencesCode.calls k t316 _ _ y317 t320 _ ?side1 ?side2 A4.out).mono ?_
   (case side1=>repeat (first|exact (Kd.R_reads' HO319.out).2.2|(with_reducible refine cA ?_ _)|(with_reducible refine cN ?_ _)|(with_reducible refine cD ?_)))
   (case side2=>exact (Kd.R_reads' HO319.out).2.1)
   rintro e w14 ⟨rfl,hb⟩
   refine ⟨_,rfl,?_⟩
   replace HO319:=aM (Kd.R_below HO319.out hb)
   replace BK315:=aM (blk_below (g:=gb315) (o:=.cells #[.string a0_0,.string a0_1] 25 (0,0)) BK315.out hb)
   replace HB:=aM (below_step HB.out hb)
   (try clear hb)
   refine hK.out _ _ ⟨(blk_cell BK315.out 0).trans rfl,(blk_cell BK315.out 1).trans rfl⟩ (fun hHeld=>?_)
   clear hK K
   refine norm_ (a':=?_) ?_ ?_
   rotate_left
   ·show Act.put _ (some 12) _ = _
    simp only [Act.put,sI,sZ,sS,i64_w,i32_w]
    rfl
   refine pure_ (i:=5) (N:=some 6) (v:=?_) (a':=?_) #[tT,tT,tT,tT,tT,tT] rfl rfl (by kernel_rfl) (fun _ _ _ h=>h) (Or.inl ⟨by rfl,?_⟩) ?_ ?_
   rotate_left
   ·intro w'
    go_simp
    with_reducible rfl
   rotate_left
   ·simp only [Act.put,sI,sZ,sS,i64_w,i32_w]
    rfl
   refine done_ (by kernel_rfl) ?_
   have hcz15_0:w14.cell? ⟨gb315,0,none⟩ = some (.string a0_0):=(blk_cell BK315.out 0).trans rfl
   have hcz15_1:w14.cell? ⟨gb315,1,none⟩ = some (.string a0_1):=(blk_cell BK315.out 1).trans rfl
   have hfz15_0:=blk_frozen BK315.out 0
   have hfz15_1:=blk_frozen BK315.out 1
   try go_wp2_with (first|((with_reducible refine gate_callee (f:=21) rfl ?_);refine goesL_ (some 18) rfl rfl Try.func21 (by kernel_rfl) rfl #[.agg #[.string a0_0,.string a0_1],.int .i64 a1] rfl (by (try simp only [sM,sC,sN]);first|done|rfl|(simp only [List.length_drop,List.length_take];rfl)) ?_;(with_reducible refine (impl_Sequence_rho.calls k a0_0 a0_1 a1 t321 _ A6.out).mono ?_);rintro e w16 ⟨rfl,hb⟩;refine ⟨_,rfl,?_⟩;replace HO319:=aM (Kd.R_below HO319.out hb);replace BK315:=aM (blk_below (g:=gb315) (o:=.cells #[.string a0_0,.string a0_1] 25 (0,0)) BK315.out hb);replace HB:=aM (below_step HB.out hb);(try clear hb);(try clear hb2);(try clear hk);(try clear hi)))
   go_ret2
   exact ⟨by first|rfl|(simp [errW_none,errW_some] <;> rfl)|(simp [*,errW_none,errW_some] <;> rfl),HB.out⟩
  ·rw [if_neg c7] at H
   have c7b0:(t321 == 0) = false:=beq_eq_false_iff_ne.mpr c7
   have c7b1:(t321 != 0) = true:=bne_iff_ne.mpr c7
   simp only [Option.some.injEq,Prod.mk.injEq] at H
   obtain ⟨rfl,rfl⟩:=H
   go_enter Try.func6,Try.ntmps6
   try go_wp2_with (first|((with_reducible refine gate_dst (N:=2) rfl ?_);refine box_event ?hg (N:=2) ?hd (cs:=#[.string a0_0,.string a0_1]) (t:=25) ?hr ?_;(case hd=>rfl);(case hg=>rfl);(case hr=>first|(go_simp;done)|(go_simp;rfl));intro gb315 hg w17 hbox hb;have n0_:=aM (below_step HB.out hb);have n1_:=aM (hbox);have n2_:=aM ((by rw [hg];exact (below_size HB.out):w.heap.size ≤ gb315));have n3_:=aM ((by rw [hg];exact (below_size HB.out):w.heap.size ≤ gb315));clear HB;have HB:=n0_;have BK315:=n1_;have GW315:=n2_;have GE315:=n3_;clear n0_ n1_ n2_ n3_;clear hb hbox hg))
   replace BK315:=aM (yD BK315.out)
   replace HB:=aM (zD HB.out)
   refine start_ (n:=6) (S:=fun w'=>w'.cell? ⟨gb315,0,none⟩ = some (.string a0_0) ∧ w'.cell? ⟨gb315,1,none⟩ = some (.string a0_1)) (ds:=[]) #[fF,fF,fF,fF,fF,fF] (by kernel_rfl) rfl rfl ⟨(blk_cell BK315.out 0).trans rfl,(blk_cell BK315.out 1).trans rfl⟩ (fun hHeld=>?_)
   generalize w17.drew = w18 at BK315 HB hHeld ⊢
   refine pure_ (i:=0) (N:=some 8) (v:=?_) (a':=?_) #[tT,fF,fF,fF,fF,fF] rfl rfl (by kernel_rfl) (fun _ _ _ h=>h) (Or.inl ⟨by rfl,?_⟩) ?_ ?_
   rotate_left
   ·intro w'
    go_simp
    with_reducible rfl
   rotate_left
   ·simp only [Act.put,sI,sZ,sS,i64_w,i32_w]
    rfl
   refine take_ (i:=2) (N:=some 10) (v:=?_) (a':=?_) #[tT,fF,tT,fF,fF,fF] rfl rfl (by kernel_rfl) (fun _ _ _ h=>h) (Or.inl ⟨by rfl,?_⟩) hHeld ?_ ?_
   rotate_left
   ·rintro w' ⟨s0,s1⟩
    go_simp
    with_reducible rfl
   rotate_left
   ·simp only [Act.put,sI,sZ,sS,i64_w,i32_w]
    rfl
   refine join_ (σ:=Value) 2 #[true,true,true,true,false,false] (fun s_=>[(9,.bool t316),(11,s_)]) (fun s_ w'=>(w'.cell? ⟨gb315,0,none⟩ = some (.string a0_0) ∧ w'.cell? ⟨gb315,1,none⟩ = some (.string a0_1)) ∧ (Kd.R k25 25 w' w.heap.size (fun k_=>k_ ≠ gb315) s_ y317) ∧ (w'.heap[gb315]? = some (.cells #[.string a0_0,.string a0_1] 25 (0,0))) ∧ (Below w.heap.size w w')) ?_ ?_
   rotate_left
   ·intro hCont
    refine two_ (i:=1) (j:=3) (Ni:=some 9) (Nj:=some 11) #[true,true,true,false,false,false] #[true,false,true,true,false,false] rfl rfl rfl rfl (by kernel_rfl) (by decide) (by decide) (fun K hK=>?_) (fun K hK=>?_)
    ·skip
     refine goes_ Try.func20 (by kernel_rfl) rfl #[.int .i64 a1,.int .i64 1,.int .i64 1000] (by rfl) rfl rfl (by (try simp only [sM,sC,sN]);first|done|rfl|(simp only [List.length_drop,List.length_take];rfl)) ?_
     with_reducible refine (impl_within.calls a1 1 1000 t316 _ A3.out).mono ?_
     rintro e w' ⟨rfl,⟨nd,rfl⟩⟩
     refine ⟨_,rfl,?_⟩
     refine hK.out _ _ ⟨(blk_cell BK315.out 0).trans rfl,(blk_cell BK315.out 1).trans rfl⟩ (fun hHeld=>?_)
     clear hK K
     refine norm_ (a':=?_) ?_ ?_
     rotate_left
     ·show Act.put _ (some 9) _ = _
      simp only [Act.put,sI,sZ,sS,i64_w,i32_w]
      rfl
     refine one_ (i:=3) (N:=some 11) #[tT,tT,tT,tT,fF,fF] rfl rfl (by kernel_rfl) (by decide) (fun K hK=>?_)
     refine Kd.R_lit_step k25 _ 25 ?hg (N:=11) ?hd (xs:=([(⟨a0_0,a0_1⟩:S25)]:List (S25))) (inner:=[.string a0_0,.string a0_1]) (ok:=fun _=>True) (okp:=fun _=>True) ?hr ?hp (fun _ hk=>hk) trivial (Below.refl _ _) (Nat.le_refl _) (by simp) ?_;(case hd=>rfl);(case hg=>rfl);(case hr=>first|(go_simp;done)|(go_simp;rfl));(case hp=>exact (Reps.c2 (show Kd.M k25 _ _ _ (⟨a0_0,a0_1⟩:S25) [.string a0_0,.string a0_1] from (k25_mkM _ _ _ (⟨a0_0,a0_1⟩:S25) )) (Reps.none _ _)))
     intro v318 w19 ho20 hb hg_ hnew_
     clear hg_ hnew_
     (first|rw [← Ny317.out] at ho20|(simp only [Int.reduceToNat] at ho20;rw [← Ny317.out] at ho20))
     have HO319:=aM (Kd.R_lower (Kd.R_newB ho20 (g:=gb315) (o:=.cells #[.string a0_0,.string a0_1] 25 (0,0)) (by (with_reducible repeat (first|apply yN|apply yD|apply yA));exact BK315.out)) (below_size (by repeat (first|(with_reducible first|exact HB.out|apply zA|apply zN|apply zD|refine zS ?_ GE315.out)|exact HB.out))))
     replace BK315:=aM (blk_below (g:=gb315) (o:=.cells #[.string a0_0,.string a0_1] 25 (0,0)) (by (with_reducible repeat (first|apply yN|apply yD|apply yA));exact BK315.out) hb)
     replace HB:=aM (below_step (by repeat (first|(with_reducible first|exact HB.out|apply zA|apply zN|apply zD|refine zS ?_ GE315.out)|exact HB.out)) hb)
     clear hb ho20
     refine hK.out _ _ ⟨(blk_cell BK315.out 0).trans rfl,(blk_cell BK315.out 1).trans rfl⟩ (fun hHeld=>?_)
     clear hK K
     refine norm_ (a':=?_) ?_ ?_
     rotate_left
     ·show Act.put _ (some 11) _ = _
      simp only [Act.put,sI,sZ,sS,i64_w,i32_w]
      rfl
     exact norm_ (by simp only [putAll,Act.put,sI,sZ,sS]) (hCont (v318) _ ⟨hHeld,(by (with_reducible repeat (first|apply rA|apply rN|apply rD));exact Kd.R_mono HO319.out (fun _ hk=>hk.2)),BK315.out,HB.out⟩)
    ·skip
     refine Kd.R_lit_step k25 _ 25 ?hg (N:=11) ?hd (xs:=([(⟨a0_0,a0_1⟩:S25)]:List (S25))) (inner:=[.string a0_0,.string a0_1]) (ok:=fun _=>True) (okp:=fun _=>True) ?hr ?hp (fun _ hk=>hk) trivial (Below.refl _ _) (Nat.le_refl _) (by simp) ?_;(case hd=>rfl);(case hg=>rfl);(case hr=>first|(go_simp;done)|(go_simp;rfl));(case hp=>exact (Reps.c2 (show Kd.M k25 _ _ _ (⟨a0_0,a0_1⟩:S25) [.string a0_0,.string a0_1] from (k25_mkM _ _ _ (⟨a0_0,a0_1⟩:S25) )) (Reps.none _ _)))
     intro v318 w19 ho20 hb hg_ hnew_
     clear hg_ hnew_
     (first|rw [← Ny317.out] at ho20|(simp only [Int.reduceToNat] at ho20;rw [← Ny317.out] at ho20))
     have HO319:=aM (Kd.R_lower (Kd.R_newB ho20 (g:=gb315) (o:=.cells #[.string a0_0,.string a0_1] 25 (0,0)) BK315.out) (below_size HB.out))
     replace BK315:=aM (blk_below (g:=gb315) (o:=.cells #[.string a0_0,.string a0_1] 25 (0,0)) BK315.out hb)
     replace HB:=aM (below_step HB.out hb)
     clear hb ho20
     refine hK.out _ _ ⟨(blk_cell BK315.out 0).trans rfl,(blk_cell BK315.out 1).trans rfl⟩ (fun hHeld=>?_)
     clear hK K
     refine norm_ (a':=?_) ?_ ?_
     rotate_left
     ·show Act.put _ (some 11) _ = _
      simp only [Act.put,sI,sZ,sS,i64_w,i32_w]
      rfl
     refine one_ (i:=1) (N:=some 9) #[tT,tT,tT,tT,fF,fF] rfl rfl (by kernel_rfl) (by decide) (fun K hK=>?_)
     refine goes_ Try.func20 (by kernel_rfl) rfl #[.int .i64 a1,.int .i64 1,.int .i64 1000] (by rfl) rfl rfl (by (try simp only [sM,sC,sN]);first|done|rfl|(simp only [List.length_drop,List.length_take];rfl)) ?_
     with_reducible refine (impl_within.calls a1 1 1000 t316 _ A3.out).mono ?_
     rintro e w' ⟨rfl,⟨nd,rfl⟩⟩
     refine ⟨_,rfl,?_⟩
     refine hK.out _ _ ⟨(blk_cell BK315.out 0).trans rfl,(blk_cell BK315.out 1).trans rfl⟩ (fun hHeld=>?_)
     clear hK K
     refine norm_ (a':=?_) ?_ ?_
     rotate_left
     ·show Act.put _ (some 9) _ = _
      simp only [Act.put,sI,sZ,sS,i64_w,i32_w]
      rfl
     exact norm_ (by simp only [putAll,Act.put,sI,sZ,sS]) (hCont (v318) _ ⟨hHeld,(by (with_reducible repeat (first|apply rA|apply rN|apply rD));exact Kd.R_mono HO319.out (fun _ hk=>hk.2)),(by (with_reducible repeat (first|apply yN|apply yD|apply yA));exact BK315.out),(by repeat (first|(with_reducible first|exact HB.out|apply zA|apply zN|apply zD|refine zS ?_ GE315.out)|exact HB.out))⟩)
   rintro v318 w21 ⟨hS_,h0_,h1_,h2_⟩
   have n0_:Aside0 (Kd.R k25 25 w21 w.heap.size (fun k_=>k_ ≠ gb315) v318 y317):=⟨h0_⟩
   have n1_:Aside0 (w21.heap[gb315]? = some (.cells #[.string a0_0,.string a0_1] 25 (0,0))):=⟨h1_⟩
   have n2_:Aside0 (Below w.heap.size w w21):=⟨h2_⟩
   clear BK315
   clear HB
   clear h0_ h1_ h2_
   have HO319:=n0_
   have BK315:=n1_
   have HB:=n2_
   clear n0_ n1_ n2_
   have hHeld:w21.cell? ⟨gb315,0,none⟩ = some (.string a0_0) ∧ w21.cell? ⟨gb315,1,none⟩ = some (.string a0_1):=hS_
   obtain ⟨Ao22,co22,eo22⟩:=Kd.R_slice HO319.out
   (first|subst eo22|(injection eo22 with f1_ f2_ f3_;have f4_:=f1_.symm;have f5_:=f3_.symm;clear f1_ f2_ f3_;subst f4_;subst f5_))
   refine norm_ (a':=?_) ?_ ?_
   rotate_left
   ·simp only [putAll,Act.put,sI,sZ,sS]
    rfl
   refine one_ (i:=4) (N:=some 12) #[tT,tT,tT,tT,tT,fF] rfl rfl (by kernel_rfl) (by decide) (fun K hK=>?_)
   refine goes_ Try.func19 (by kernel_rfl) rfl #[.bool t316,.slice Ao22 y317.length co22] (by rfl) rfl rfl (by (try simp only [sM,sC,sN]);first|done|rfl|(simp only [List.length_drop,List.length_take];rfl)) ?_
   with_reducible refine (impl_sequencesCode.calls k t316 _ _ y317 t320 _ ?side1 ?side2 A4.out).mono ?_
   (case side1=>repeat (first|exact (Kd.R_reads' HO319.out).2.2|(with_reducible refine cA ?_ _)|(with_reducible refine cN ?_ _)|(with_reducible refine cD ?_)))
   (case side2=>exact (Kd.R_reads' HO319.out).2.1)
   rintro e w23 ⟨rfl,hb⟩
   refine ⟨_,rfl,?_⟩
   replace HO319:=aM (Kd.R_below HO319.out hb)
   replace BK315:=aM (blk_below (g:=gb315) (o:=.cells #[.string a0_0,.string a0_1] 25 (0,0)) BK315.out hb)
   replace HB:=aM (below_step HB.out hb)
   (try clear hb)
   refine hK.out _ _ ⟨(blk_cell BK315.out 0).trans rfl,(blk_cell BK315.out 1).trans rfl⟩ (fun hHeld=>?_)
   clear hK K
   refine norm_ (a':=?_) ?_ ?_
   rotate_left
   ·show Act.put _ (some 12) _ = _
    simp only [Act.put,sI,sZ,sS,i64_w,i32_w]
    rfl
   refine pure_ (i:=5) (N:=some 6) (v:=?_) (a':=?_) #[tT,tT,tT,tT,tT,tT] rfl rfl (by kernel_rfl) (fun _ _ _ h=>h) (Or.inl ⟨by rfl,?_⟩) ?_ ?_
   rotate_left
   ·intro w'
    go_simp
    with_reducible rfl
   rotate_left
   ·simp only [Act.put,sI,sZ,sS,i64_w,i32_w]
    rfl
   refine done_ (by kernel_rfl) ?_
   have hcz24_0:w23.cell? ⟨gb315,0,none⟩ = some (.string a0_0):=(blk_cell BK315.out 0).trans rfl
   have hcz24_1:w23.cell? ⟨gb315,1,none⟩ = some (.string a0_1):=(blk_cell BK315.out 1).trans rfl
   have hfz24_0:=blk_frozen BK315.out 0
   have hfz24_1:=blk_frozen BK315.out 1
   try go_wp2_with (first|((with_reducible refine gate_callee (f:=21) rfl ?_);refine goesL_ (some 18) rfl rfl Try.func21 (by kernel_rfl) rfl #[.agg #[.string a0_0,.string a0_1],.int .i64 a1] rfl (by (try simp only [sM,sC,sN]);first|done|rfl|(simp only [List.length_drop,List.length_take];rfl)) ?_;(with_reducible refine (impl_Sequence_rho.calls k a0_0 a0_1 a1 t321 _ A6.out).mono ?_);rintro e w25 ⟨rfl,hb⟩;refine ⟨_,rfl,?_⟩;replace HO319:=aM (Kd.R_below HO319.out hb);replace BK315:=aM (blk_below (g:=gb315) (o:=.cells #[.string a0_0,.string a0_1] 25 (0,0)) BK315.out hb);replace HB:=aM (below_step HB.out hb);(try clear hb);(try clear hb2);(try clear hk);(try clear hi)))
   go_ret2
   exact ⟨by first|rfl|(simp [errW_none,errW_some] <;> rfl)|(simp [*,errW_none,errW_some] <;> rfl),HB.out⟩
 ·rw [if_neg c5] at H
  have c5b0:(t320 == 0) = false:=beq_eq_false_iff_ne.mpr c5
  have c5b1:(t320 != 0) = true:=bne_iff_ne.mpr c5
  simp only [Option.some.injEq,Prod.mk.injEq] at H
  obtain ⟨rfl,rfl⟩:=H
  go_enter Try.func6,Try.ntmps6
  try go_wp2_with (first|((with_reducible refine gate_dst (N:=2) rfl ?_);refine box_event ?hg (N:=2) ?hd (cs:=#[.string a0_0,.string a0_1]) (t:=25) ?hr ?_;(case hd=>rfl);(case hg=>rfl);(case hr=>first|(go_simp;done)|(go_simp;rfl));intro gb315 hg w26 hbox hb;have n0_:=aM (below_step HB.out hb);have n1_:=aM (hbox);have n2_:=aM ((by rw [hg];exact (below_size HB.out):w.heap.size ≤ gb315));have n3_:=aM ((by rw [hg];exact (below_size HB.out):w.heap.size ≤ gb315));clear HB;have HB:=n0_;have BK315:=n1_;have GW315:=n2_;have GE315:=n3_;clear n0_ n1_ n2_ n3_;clear hb hbox hg))
  replace BK315:=aM (yD BK315.out)
  replace HB:=aM (zD HB.out)
  refine start_ (n:=6) (S:=fun w'=>w'.cell? ⟨gb315,0,none⟩ = some (.string a0_0) ∧ w'.cell? ⟨gb315,1,none⟩ = some (.string a0_1)) (ds:=[]) #[fF,fF,fF,fF,fF,fF] (by kernel_rfl) rfl rfl ⟨(blk_cell BK315.out 0).trans rfl,(blk_cell BK315.out 1).trans rfl⟩ (fun hHeld=>?_)
  generalize w26.drew = w27 at BK315 HB hHeld ⊢
  refine pure_ (i:=0) (N:=some 8) (v:=?_) (a':=?_) #[tT,fF,fF,fF,fF,fF] rfl rfl (by kernel_rfl) (fun _ _ _ h=>h) (Or.inl ⟨by rfl,?_⟩) ?_ ?_
  rotate_left
  ·intro w'
   go_simp
   with_reducible rfl
  rotate_left
  ·simp only [Act.put,sI,sZ,sS,i64_w,i32_w]
   rfl
  refine take_ (i:=2) (N:=some 10) (v:=?_) (a':=?_) #[tT,fF,tT,fF,fF,fF] rfl rfl (by kernel_rfl) (fun _ _ _ h=>h) (Or.inl ⟨by rfl,?_⟩) hHeld ?_ ?_
  rotate_left
  ·rintro w' ⟨s0,s1⟩
   go_simp
   with_reducible rfl
  rotate_left
  ·simp only [Act.put,sI,sZ,sS,i64_w,i32_w]
   rfl
  refine join_ (σ:=Value) 2 #[true,true,true,true,false,false] (fun s_=>[(9,.bool t316),(11,s_)]) (fun s_ w'=>(w'.cell? ⟨gb315,0,none⟩ = some (.string a0_0) ∧ w'.cell? ⟨gb315,1,none⟩ = some (.string a0_1)) ∧ (Kd.R k25 25 w' w.heap.size (fun k_=>k_ ≠ gb315) s_ y317) ∧ (w'.heap[gb315]? = some (.cells #[.string a0_0,.string a0_1] 25 (0,0))) ∧ (Below w.heap.size w w')) ?_ ?_
  rotate_left
  ·intro hCont
   refine two_ (i:=1) (j:=3) (Ni:=some 9) (Nj:=some 11) #[true,true,true,false,false,false] #[true,false,true,true,false,false] rfl rfl rfl rfl (by kernel_rfl) (by decide) (by decide) (fun K hK=>?_) (fun K hK=>?_)
   ·skip
    refine goes_ Try.func20 (by kernel_rfl) rfl #[.int .i64 a1,.int .i64 1,.int .i64 1000] (by rfl) rfl rfl (by (try simp only [sM,sC,sN]);first|done|rfl|(simp only [List.length_drop,List.length_take];rfl)) ?_
    with_reducible refine (impl_within.calls a1 1 1000 t316 _ A3.out).mono ?_
    rintro e w' ⟨rfl,⟨nd,rfl⟩⟩
    refine ⟨_,rfl,?_⟩
    refine hK.out _ _ ⟨(blk_cell BK315.out 0).trans rfl,(blk_cell BK315.out 1).trans rfl⟩ (fun hHeld=>?_)
    clear hK K
    refine norm_ (a':=?_) ?_ ?_
    rotate_left
    ·show Act.put _ (some 9) _ = _
     simp only [Act.put,sI,sZ,sS,i64_w,i32_w]
     rfl
    refine one_ (i:=3) (N:=some 11) #[tT,tT,tT,tT,fF,fF] rfl rfl (by kernel_rfl) (by decide) (fun K hK=>?_)
    refine Kd.R_lit_step k25 _ 25 ?hg (N:=11) ?hd (xs:=([(⟨a0_0,a0_1⟩:S25)]:List (S25))) (inner:=[.string a0_0,.string a0_1]) (ok:=fun _=>True) (okp:=fun _=>True) ?hr ?hp (fun _ hk=>hk) trivial (Below.refl _ _) (Nat.le_refl _) (by simp) ?_;(case hd=>rfl);(case hg=>rfl);(case hr=>first|(go_simp;done)|(go_simp;rfl));(case hp=>exact (Reps.c2 (show Kd.M k25 _ _ _ (⟨a0_0,a0_1⟩:S25) [.string a0_0,.string a0_1] from (k25_mkM _ _ _ (⟨a0_0,a0_1⟩:S25) )) (Reps.none _ _)))
    intro v318 w28 ho29 hb hg_ hnew_
    clear hg_ hnew_
    (first|rw [← Ny317.out] at ho29|(simp only [Int.reduceToNat] at ho29;rw [← Ny317.out] at ho29))
    have HO319:=aM (Kd.R_lower (Kd.R_newB ho29 (g:=gb315) (o:=.cells #[.string a0_0,.string a0_1] 25 (0,0)) (by (with_reducible repeat (first|apply yN|apply yD|apply yA));exact BK315.out)) (below_size (by repeat (first|(with_reducible first|exact HB.out|apply zA|apply zN|apply zD|refine zS ?_ GE315.out)|exact HB.out))))
    replace BK315:=aM (blk_below (g:=gb315) (o:=.cells #[.string a0_0,.string a0_1] 25 (0,0)) (by (with_reducible repeat (first|apply yN|apply yD|apply yA));exact BK315.out) hb)
    replace HB:=aM (below_step (by repeat (first|(with_reducible first|exact HB.out|apply zA|apply zN|apply zD|refine zS ?_ GE315.out)|exact HB.out)) hb)
    clear hb ho29
    refine hK.out _ _ ⟨(blk_cell BK315.out 0).trans rfl,(blk_cell BK315.out 1).trans rfl⟩ (fun hHeld=>?_)
    clear hK K
    refine norm_ (a':=?_) ?_ ?_
    rotate_left
    ·show Act.put _ (some 11) _ = _
     simp only [Act.put,sI,sZ,sS,i64_w,i32_w]
     rfl
    exact norm_ (by simp only [putAll,Act.put,sI,sZ,sS]) (hCont (v318) _ ⟨hHeld,(by (with_reducible repeat (first|apply rA|apply rN|apply rD));exact Kd.R_mono HO319.out (fun _ hk=>hk.2)),BK315.out,HB.out⟩)
   ·skip
    refine Kd.R_lit_step k25 _ 25 ?hg (N:=11) ?hd (xs:=([(⟨a0_0,a0_1⟩:S25)]:List (S25))) (inner:=[.string a0_0,.string a0_1]) (ok:=fun _=>True) (okp:=fun _=>True) ?hr ?hp (fun _ hk=>hk) trivial (Below.refl _ _) (Nat.le_refl _) (by simp) ?_;(case hd=>rfl);(case hg=>rfl);(case hr=>first|(go_simp;done)|(go_simp;rfl));(case hp=>exact (Reps.c2 (show Kd.M k25 _ _ _ (⟨a0_0,a0_1⟩:S25) [.string a0_0,.string a0_1] from (k25_mkM _ _ _ (⟨a0_0,a0_1⟩:S25) )) (Reps.none _ _)))
    intro v318 w28 ho29 hb hg_ hnew_
    clear hg_ hnew_
    (first|rw [← Ny317.out] at ho29|(simp only [Int.reduceToNat] at ho29;rw [← Ny317.out] at ho29))
    have HO319:=aM (Kd.R_lower (Kd.R_newB ho29 (g:=gb315) (o:=.cells #[.string a0_0,.string a0_1] 25 (0,0)) BK315.out) (below_size HB.out))
    replace BK315:=aM (blk_below (g:=gb315) (o:=.cells #[.string a0_0,.string a0_1] 25 (0,0)) BK315.out hb)
    replace HB:=aM (below_step HB.out hb)
    clear hb ho29
    refine hK.out _ _ ⟨(blk_cell BK315.out 0).trans rfl,(blk_cell BK315.out 1).trans rfl⟩ (fun hHeld=>?_)
    clear hK K
    refine norm_ (a':=?_) ?_ ?_
    rotate_left
    ·show Act.put _ (some 11) _ = _
     simp only [Act.put,sI,sZ,sS,i64_w,i32_w]
     rfl
    refine one_ (i:=1) (N:=some 9) #[tT,tT,tT,tT,fF,fF] rfl rfl (by kernel_rfl) (by decide) (fun K hK=>?_)
    refine goes_ Try.func20 (by kernel_rfl) rfl #[.int .i64 a1,.int .i64 1,.int .i64 1000] (by rfl) rfl rfl (by (try simp only [sM,sC,sN]);first|done|rfl|(simp only [List.length_drop,List.length_take];rfl)) ?_
    with_reducible refine (impl_within.calls a1 1 1000 t316 _ A3.out).mono ?_
    rintro e w' ⟨rfl,⟨nd,rfl⟩⟩
    refine ⟨_,rfl,?_⟩
    refine hK.out _ _ ⟨(blk_cell BK315.out 0).trans rfl,(blk_cell BK315.out 1).trans rfl⟩ (fun hHeld=>?_)
    clear hK K
    refine norm_ (a':=?_) ?_ ?_
    rotate_left
    ·show Act.put _ (some 9) _ = _
     simp only [Act.put,sI,sZ,sS,i64_w,i32_w]
     rfl
    exact norm_ (by simp only [putAll,Act.put,sI,sZ,sS]) (hCont (v318) _ ⟨hHeld,(by (with_reducible repeat (first|apply rA|apply rN|apply rD));exact Kd.R_mono HO319.out (fun _ hk=>hk.2)),(by (with_reducible repeat (first|apply yN|apply yD|apply yA));exact BK315.out),(by repeat (first|(with_reducible first|exact HB.out|apply zA|apply zN|apply zD|refine zS ?_ GE315.out)|exact HB.out))⟩)
  rintro v318 w30 ⟨hS_,h0_,h1_,h2_⟩
  have n0_:Aside0 (Kd.R k25 25 w30 w.heap.size (fun k_=>k_ ≠ gb315) v318 y317):=⟨h0_⟩
  have n1_:Aside0 (w30.heap[gb315]? = some (.cells #[.string a0_0,.string a0_1] 25 (0,0))):=⟨h1_⟩
  have n2_:Aside0 (Below w.heap.size w w30):=⟨h2_⟩
  clear BK315
  clear HB
  clear h0_ h1_ h2_
  have HO319:=n0_
  have BK315:=n1_
  have HB:=n2_
  clear n0_ n1_ n2_
  have hHeld:w30.cell? ⟨gb315,0,none⟩ = some (.string a0_0) ∧ w30.cell? ⟨gb315,1,none⟩ = some (.string a0_1):=hS_
  obtain ⟨Ao31,co31,eo31⟩:=Kd.R_slice HO319.out
  (first|subst eo31|(injection eo31 with f1_ f2_ f3_;have f4_:=f1_.symm;have f5_:=f3_.symm;clear f1_ f2_ f3_;subst f4_;subst f5_))
  refine norm_ (a':=?_) ?_ ?_
  rotate_left
  ·simp only [putAll,Act.put,sI,sZ,sS]
   rfl
  refine one_ (i:=4) (N:=some 12) #[tT,tT,tT,tT,tT,fF] rfl rfl (by kernel_rfl) (by decide) (fun K hK=>?_)
  refine goes_ Try.func19 (by kernel_rfl) rfl #[.bool t316,.slice Ao31 y317.length co31] (by rfl) rfl rfl (by (try simp only [sM,sC,sN]);first|done|rfl|(simp only [List.length_drop,List.length_take];rfl)) ?_
  with_reducible refine (impl_sequencesCode.calls k t316 _ _ y317 t320 _ ?side1 ?side2 A4.out).mono ?_
  (case side1=>repeat (first|exact (Kd.R_reads' HO319.out).2.2|(with_reducible refine cA ?_ _)|(with_reducible refine cN ?_ _)|(with_reducible refine cD ?_)))
  (case side2=>exact (Kd.R_reads' HO319.out).2.1)
  rintro e w32 ⟨rfl,hb⟩
  refine ⟨_,rfl,?_⟩
  replace HO319:=aM (Kd.R_below HO319.out hb)
  replace BK315:=aM (blk_below (g:=gb315) (o:=.cells #[.string a0_0,.string a0_1] 25 (0,0)) BK315.out hb)
  replace HB:=aM (below_step HB.out hb)
  (try clear hb)
  refine hK.out _ _ ⟨(blk_cell BK315.out 0).trans rfl,(blk_cell BK315.out 1).trans rfl⟩ (fun hHeld=>?_)
  clear hK K
  refine norm_ (a':=?_) ?_ ?_
  rotate_left
  ·show Act.put _ (some 12) _ = _
   simp only [Act.put,sI,sZ,sS,i64_w,i32_w]
   rfl
  refine pure_ (i:=5) (N:=some 6) (v:=?_) (a':=?_) #[tT,tT,tT,tT,tT,tT] rfl rfl (by kernel_rfl) (fun _ _ _ h=>h) (Or.inl ⟨by rfl,?_⟩) ?_ ?_
  rotate_left
  ·intro w'
   go_simp
   with_reducible rfl
  rotate_left
  ·simp only [Act.put,sI,sZ,sS,i64_w,i32_w]
   rfl
  refine done_ (by kernel_rfl) ?_
  try go_wp2
  go_ret2
  exact ⟨by first|rfl|(simp [errW_none,errW_some] <;> rfl)|(simp [*,errW_none,errW_some] <;> rfl),HB.out⟩
def spec_l01Letters.l0:Nat → ByteArray → Int → Option (Bool)
 | 0,_,_=>none
 | k + 1,x0,x3=>if x3 < (x0.size:Int) then (if 0 ≤ x3 then (if (bt x0 x3) = 48 then (spec_l01Letters.l0 k x0 (wrap64 (x3 + 1))) else (if (bt x0 x3) = 49 then (spec_l01Letters.l0 k x0 (wrap64 (x3 + 1))) else (if (bt x0 x3) = 42 then (spec_l01Letters.l0 k x0 (wrap64 (x3 + 1))) else (some false)))) else (none)) else (some true)
def spec_l01Letters.f (k:Nat) (a0:ByteArray):Option (Bool):=spec_l01Letters.l0 k a0 0
theorem spec_l01Letters.mono_l:∀ k,(∀ y0 y1,LeO (spec_l01Letters.l0 k y0 y1) (spec_l01Letters.l0 (k + 1) y0 y1))
 | 0=>fun _ _ r h=>by simp [spec_l01Letters.l0] at h
 | k + 1=>by
  have ih0:=spec_l01Letters.mono_l k
  ·intro y0 y1
   unfold spec_l01Letters.l0
   repeat' first
   | (with_reducible exact ih0 _ _)
   | (with_reducible exact LeO.refl _)
   | (with_reducible exact LeO.none _)
   | (with_reducible refine LeO.ite ?_ ?_)
   | (with_reducible refine LeO.bind ?_ (fun _=>?_))
   | exact ih0 _ _
   | exact LeO.none _
   | refine LeO.ite ?_ ?_
   | refine LeO.bind ?_ (fun _=>?_)
theorem spec_l01Letters.mono:∀ a0 k,LeO (spec_l01Letters.f k a0) (spec_l01Letters.f (k + 1) a0):=by
 intro a0 k
 have ih0:=spec_l01Letters.mono_l k
 unfold spec_l01Letters.f
 repeat' first
   | (with_reducible exact ih0 _ _)
   | (with_reducible exact LeO.refl _)
   | (with_reducible exact LeO.none _)
   | (with_reducible refine LeO.ite ?_ ?_)
   | (with_reducible refine LeO.bind ?_ (fun _=>?_))
   | exact ih0 _ _
   | exact LeO.none _
   | refine LeO.ite ?_ ?_
   | refine LeO.bind ?_ (fun _=>?_)
set_option maxHeartbeats 8000000 in
set_option maxRecDepth 100000 in
theorem spec_l01Letters.calls (k:Nat) (a0:ByteArray) (r:Bool) (w:World) (h:spec_l01Letters.f k a0 = some r) :
  Calls Try.prog 39 #[.string a0] w fun e w'=>e = .returned (.bool r) ∧ Drawn0 w w':=by
 have H:(spec_l01Letters.l0 k a0 0) = some r:=h
 clear h
 have H':=aM H
 clear H
 go_enter Try.func39,Try.ntmps39
 go_wp2
 go_loopg [3] k (fun kq v3 w'=>∃ (x3_1:Int),v3 = .int .i64 x3_1 ∧ Aside0 (spec_l01Letters.l0 kq a0 x3_1 = some r) ∧ Aside0 (kq ≤ k) ∧ Drawn0 w w')
 case atStart=>exact ⟨(0),(by first|rfl|(simp;done)|(simp [*];done)),H',⟨Nat.le_refl _⟩,by repeat (first|exact Drawn0.refl _|apply Drawn0.step)⟩
 case round =>
  clear H'
  obtain ⟨x3_1,rfl,HA,HK1,⟨m1,rfl⟩⟩:=hrel
  cases gk with
  | zero=>exact absurd HA.out (by simp [spec_l01Letters.l0])
  | succ k1 =>
   have H:=HA.out
   clear HA
   simp only [spec_l01Letters.l0] at H
   by_cases c2:x3_1 < (a0.size:Int)
   ·rw [if_pos c2] at H
    have c2b0:decide (x3_1 < (a0.size:Int)) = true:=decide_eq_true c2
    clear c2
    by_cases c3:0 ≤ x3_1
    ·rw [if_pos c3] at H
     have c3b0:decide (0 ≤ x3_1) = true:=decide_eq_true c3
     clear c3
     by_cases c5:(bt a0 x3_1) = 48
     ·rw [if_pos c5] at H
      have c5b0:((bt a0 x3_1) == 48) = true:=beq_iff_eq.mpr c5
      have c5b1:((bt a0 x3_1) != 48) = false:=bne_eq_false_iff_eq.mpr c5
      clear c5
      have H':=aM H
      clear H
      have p4:0 ≤ (x3_1:Int):=of_decide_eq_true (by first|(with_reducible assumption)|assumption)
      have q4:x3_1 < (a0.size:Int):=of_decide_eq_true (by first|(with_reducible assumption)|assumption)
      have hx4:=bt_at a0 x3_1
      replace p4:=eq_true p4
      replace q4:=eq_true q4
      go_wp2
      go_roundg k1
      case measure=>have:=HK1.out;omega
      case rel=>exact ⟨(wrap64 (x3_1 + 1)),(by first|rfl|(simp;done)|(simp [*];done)),H',⟨by have:=HK1.out;omega⟩,by repeat (first|exact Drawn0.refl _|apply Drawn0.step)⟩
     ·rw [if_neg c5] at H
      have c5b0:((bt a0 x3_1) == 48) = false:=beq_eq_false_iff_ne.mpr c5
      have c5b1:((bt a0 x3_1) != 48) = true:=bne_iff_ne.mpr c5
      by_cases c7:(bt a0 x3_1) = 49
      ·rw [if_pos c7] at H
       have c7b0:((bt a0 x3_1) == 49) = true:=beq_iff_eq.mpr c7
       have c7b1:((bt a0 x3_1) != 49) = false:=bne_eq_false_iff_eq.mpr c7
       clear c7
       have H':=aM H
       clear H
       have p4:0 ≤ (x3_1:Int):=of_decide_eq_true (by first|(with_reducible assumption)|assumption)
       have q4:x3_1 < (a0.size:Int):=of_decide_eq_true (by first|(with_reducible assumption)|assumption)
       have hx4:=bt_at a0 x3_1
       replace p4:=eq_true p4
       replace q4:=eq_true q4
       have p6:0 ≤ (x3_1:Int):=of_decide_eq_true (by first|(with_reducible assumption)|assumption)
       have q6:x3_1 < (a0.size:Int):=of_decide_eq_true (by first|(with_reducible assumption)|assumption)
       have hx6:=bt_at a0 x3_1
       replace p6:=eq_true p6
       replace q6:=eq_true q6
       go_wp2
       go_roundg k1
       case measure=>have:=HK1.out;omega
       case rel=>exact ⟨(wrap64 (x3_1 + 1)),(by first|rfl|(simp;done)|(simp [*];done)),H',⟨by have:=HK1.out;omega⟩,by repeat (first|exact Drawn0.refl _|apply Drawn0.step)⟩
      ·rw [if_neg c7] at H
       have c7b0:((bt a0 x3_1) == 49) = false:=beq_eq_false_iff_ne.mpr c7
       have c7b1:((bt a0 x3_1) != 49) = true:=bne_iff_ne.mpr c7
       by_cases c9:(bt a0 x3_1) = 42
       ·rw [if_pos c9] at H
        have c9b0:((bt a0 x3_1) == 42) = true:=beq_iff_eq.mpr c9
        have c9b1:((bt a0 x3_1) != 42) = false:=bne_eq_false_iff_eq.mpr c9
        clear c9
        have H':=aM H
        clear H
        have p4:0 ≤ (x3_1:Int):=of_decide_eq_true (by first|(with_reducible assumption)|assumption)
        have q4:x3_1 < (a0.size:Int):=of_decide_eq_true (by first|(with_reducible assumption)|assumption)
        have hx4:=bt_at a0 x3_1
        replace p4:=eq_true p4
        replace q4:=eq_true q4
        have p6:0 ≤ (x3_1:Int):=of_decide_eq_true (by first|(with_reducible assumption)|assumption)
        have q6:x3_1 < (a0.size:Int):=of_decide_eq_true (by first|(with_reducible assumption)|assumption)
        have hx6:=bt_at a0 x3_1
        replace p6:=eq_true p6
        replace q6:=eq_true q6
        have p8:0 ≤ (x3_1:Int):=of_decide_eq_true (by first|(with_reducible assumption)|assumption)
        have q8:x3_1 < (a0.size:Int):=of_decide_eq_true (by first|(with_reducible assumption)|assumption)
        have hx8:=bt_at a0 x3_1
        replace p8:=eq_true p8
        replace q8:=eq_true q8
        go_wp2
        go_roundg k1
        case measure=>have:=HK1.out;omega
        case rel=>exact ⟨(wrap64 (x3_1 + 1)),(by first|rfl|(simp;done)|(simp [*];done)),H',⟨by have:=HK1.out;omega⟩,by repeat (first|exact Drawn0.refl _|apply Drawn0.step)⟩
       ·rw [if_neg c9] at H
        have c9b0:((bt a0 x3_1) == 42) = false:=beq_eq_false_iff_ne.mpr c9
        have c9b1:((bt a0 x3_1) != 42) = true:=bne_iff_ne.mpr c9
        obtain rfl:=Option.some.inj H
        have p4:0 ≤ (x3_1:Int):=of_decide_eq_true (by first|(with_reducible assumption)|assumption)
        have q4:x3_1 < (a0.size:Int):=of_decide_eq_true (by first|(with_reducible assumption)|assumption)
        have hx4:=bt_at a0 x3_1
        replace p4:=eq_true p4
        replace q4:=eq_true q4
        have p6:0 ≤ (x3_1:Int):=of_decide_eq_true (by first|(with_reducible assumption)|assumption)
        have q6:x3_1 < (a0.size:Int):=of_decide_eq_true (by first|(with_reducible assumption)|assumption)
        have hx6:=bt_at a0 x3_1
        replace p6:=eq_true p6
        replace q6:=eq_true q6
        have p8:0 ≤ (x3_1:Int):=of_decide_eq_true (by first|(with_reducible assumption)|assumption)
        have q8:x3_1 < (a0.size:Int):=of_decide_eq_true (by first|(with_reducible assumption)|assumption)
        have hx8:=bt_at a0 x3_1
        replace p8:=eq_true p8
        replace q8:=eq_true q8
        go_wp2
        go_ret
        exact ⟨by first|rfl|(simp;done)|(simp [*];done),by repeat (first|exact Drawn0.refl _|apply Drawn0.step)⟩
    ·rw [if_neg c3] at H
     exact absurd H (by simp)
   ·rw [if_neg c2] at H
    have c2b0:decide (x3_1 < (a0.size:Int)) = false:=decide_eq_false c2
    clear c2
    obtain rfl:=Option.some.inj H
    go_wp2
    go_ret
    exact ⟨by first|rfl|(simp;done)|(simp [*];done),by repeat (first|exact Drawn0.refl _|apply Drawn0.step)⟩
end Go.Proofs.Ytccinmopfchjlaa.Q
end
section
namespace Go.Proofs.Ytccinmopfchjlaa.Q
open Go.Proofs.YtccinmopfchjlaaW.Ext
open Go.RowKit Go.Proofs.YtccinmopfchjlaaW.PrintWords Go.Proofs.YtccinmopfchjlaaW.PrintLast Go.Proofs.YtccinmopfchjlaaW.PrintMore
attribute [local go_sem] max2_int min2_int max_two min_two max_three min_three max_four min_four   -- for this text's walks alone
set_option linter.unusedVariables false
set_option linter.unusedSimpArgs false
attribute [local go_sem high] eqA25
def spec_l01Seq.f (k:Nat) (a0_0:ByteArray) (a0_1:ByteArray):Option (Bool):=(spec_l01Letters.f k a0_0).bind fun t323=>(if t323 = true then ((spec_l01Letters.f k a0_1).bind fun t324=>(if t324 = true then (if a0_1.toList = ([]:List UInt8) then (some false) else (if (wrap64 ((a0_0.size:Int) + (a0_1.size:Int))) > 64 then (some false) else ((spec_l01Canonical.f k a0_0 a0_1).bind fun bt325=>(some (bt325.1.toList == a0_0.toList && (bt325.2.toList == a0_1.toList)))))) else (some false))) else (some false))
theorem spec_l01Seq.mono:∀ a0 a1 k,LeO (spec_l01Seq.f k a0 a1) (spec_l01Seq.f (k + 1) a0 a1):=by
 intro a0 a1 k
 unfold spec_l01Seq.f
 repeat' first
   | (with_reducible exact spec_l01Canonical.mono _ _ _)
   | (with_reducible exact spec_l01Letters.mono _ _)
   | (with_reducible exact LeO.refl _)
   | (with_reducible exact LeO.none _)
   | (with_reducible refine LeO.ite ?_ ?_)
   | (with_reducible refine LeO.bind ?_ (fun _=>?_))
   | exact spec_l01Canonical.mono _ _ _
   | exact spec_l01Letters.mono _ _
   | exact LeO.none _
   | refine LeO.ite ?_ ?_
   | refine LeO.bind ?_ (fun _=>?_)
def spec_l01Seq.T3:Bool × List (List Nat × List Nat):=(true,[([],[]),([0],[0]),([],[]),([2],[2]),([1,3],[1,3]),([],[]),([4,5],[4,5]),([6,4,0,1,2,3,4,5,6],[6])])
def spec_l01Seq.B3:List Nat:=[0,1,0,4,15,0,63,127]
theorem spec_l01Seq.tab3:rtab .any (opsOf Try.f22 3) = spec_l01Seq.T3:=by kernel_rfl
theorem spec_l01Seq.bits3:waitsOk spec_l01Seq.T3.2 spec_l01Seq.B3 = true:=by kernel_rfl
set_option maxHeartbeats 8000000 in
set_option maxRecDepth 100000 in
theorem spec_l01Seq.calls (k:Nat) (a0_0:ByteArray) (a0_1:ByteArray) (r:Bool) (w:World) (h:spec_l01Seq.f k a0_0 a0_1 = some r) :
  Calls Try.prog 22 #[.agg #[.string a0_0,.string a0_1]] w fun e w'=>e = .returned (.bool r) ∧ Below w.heap.size w w':=by
 have hu25:=Try.underlying25
 have HB:=aM (Below.refl w.heap.size w)
 have H:((spec_l01Letters.f k a0_0).bind fun t323=>(if t323 = true then ((spec_l01Letters.f k a0_1).bind fun t324=>(if t324 = true then (if a0_1.toList = ([]:List UInt8) then (some false) else (if (wrap64 ((a0_0.size:Int) + (a0_1.size:Int))) > 64 then (some false) else ((spec_l01Canonical.f k a0_0 a0_1).bind fun bt325=>(some (bt325.1.toList == a0_0.toList && (bt325.2.toList == a0_1.toList)))))) else (some false))) else (some false))) = some r:=h
 clear h
 replace H:=Option.bind_eq_some_iff.mp H
 obtain ⟨t323,A20,H⟩:=H
 replace H:(if t323 = true then ((spec_l01Letters.f k a0_1).bind fun t324=>(if t324 = true then (if a0_1.toList = ([]:List UInt8) then (some false) else (if (wrap64 ((a0_0.size:Int) + (a0_1.size:Int))) > 64 then (some false) else ((spec_l01Canonical.f k a0_0 a0_1).bind fun bt325=>(some (bt325.1.toList == a0_0.toList && (bt325.2.toList == a0_1.toList)))))) else (some false))) else (some false)) = some r:=H
 have A2:=aM A20
 clear A20
 by_cases c3:t323 = true
 ·subst c3
  have H1:((spec_l01Letters.f k a0_1).bind fun t324=>(if t324 = true then (if a0_1.toList = ([]:List UInt8) then (some false) else (if (wrap64 ((a0_0.size:Int) + (a0_1.size:Int))) > 64 then (some false) else ((spec_l01Canonical.f k a0_0 a0_1).bind fun bt325=>(some (bt325.1.toList == a0_0.toList && (bt325.2.toList == a0_1.toList)))))) else (some false))) = some r:=by rw [if_pos rfl] at H;exact H
  clear H
  have H:=H1
  clear H1
  replace H:=Option.bind_eq_some_iff.mp H
  obtain ⟨t324,A40,H⟩:=H
  replace H:(if t324 = true then (if a0_1.toList = ([]:List UInt8) then (some false) else (if (wrap64 ((a0_0.size:Int) + (a0_1.size:Int))) > 64 then (some false) else ((spec_l01Canonical.f k a0_0 a0_1).bind fun bt325=>(some (bt325.1.toList == a0_0.toList && (bt325.2.toList == a0_1.toList)))))) else (some false)) = some r:=H
  have A4:=aM A40
  clear A40
  by_cases c5:t324 = true
  ·subst c5
   have H1:(if a0_1.toList = ([]:List UInt8) then (some false) else (if (wrap64 ((a0_0.size:Int) + (a0_1.size:Int))) > 64 then (some false) else ((spec_l01Canonical.f k a0_0 a0_1).bind fun bt325=>(some (bt325.1.toList == a0_0.toList && (bt325.2.toList == a0_1.toList)))))) = some r:=by rw [if_pos rfl] at H;exact H
   clear H
   have H:=H1
   clear H1
   by_cases c6:a0_1.toList = ([]:List UInt8)
   ·rw [if_pos c6] at H
    have c6b0:(a0_1.toList == ([]:List UInt8)) = true:=beq_iff_eq.mpr c6
    have c6b1:(a0_1.toList != ([]:List UInt8)) = false:=bne_eq_false_iff_eq.mpr c6
    clear c6
    obtain rfl:=Option.some.inj H
    go_enter Try.func22,Try.ntmps22
    go_wp2_with (first|((with_reducible refine gate_dst (N:=1) rfl ?_);(try (refine gate_guard (by rfl) ?_;dsimp only));refine box_event ?hg (N:=1) ?hd (cs:=#[.string a0_0,.string a0_1]) (t:=25) ?hr ?_;(case hd=>rfl);(case hg=>rfl);(case hr=>first|(go_simp;done)|(go_simp;rfl));intro gb322 hg w7 hbox hb;have n0_:=aM (below_step (by repeat (first|(with_reducible first|exact HB.out|apply zA|apply zN|apply zD)|exact HB.out)) hb);have n1_:=aM (hbox);have n2_:=aM ((by rw [hg];exact (below_size (by repeat (first|(with_reducible first|exact HB.out|apply zA|apply zN|apply zD)|exact HB.out))):w.heap.size ≤ gb322));have n3_:=aM ((by rw [hg];exact (below_size (by repeat (first|(with_reducible first|exact HB.out|apply zA|apply zN|apply zD)|exact HB.out))):w.heap.size ≤ gb322));clear HB;have HB:=n0_;have BK322:=n1_;have GW322:=n2_;have GE322:=n3_;clear n0_ n1_ n2_ n3_;clear hb hbox hg;have hcz8_0:w7.cell? ⟨gb322,0,none⟩ = some (.string a0_0):=(blk_cell BK322.out 0).trans rfl;have hcz8_1:w7.cell? ⟨gb322,1,none⟩ = some (.string a0_1):=(blk_cell BK322.out 1).trans rfl;have hfz8_0:=blk_frozen BK322.out 0;have hfz8_1:=blk_frozen BK322.out 1)|((with_reducible refine gate_callee (f:=39) rfl ?_);refine goesL_ (some 5) rfl rfl Try.func39 (by kernel_rfl) rfl #[.string a0_0] rfl (by (try simp only [sM,sC,sN]);first|done|rfl|(simp only [List.length_drop,List.length_take];rfl)) ?_;(with_reducible refine (spec_l01Letters.calls k a0_0 true _ A2.out).mono ?_);rintro e w' ⟨rfl,⟨nd,rfl⟩⟩;refine ⟨_,rfl,?_⟩)|(go_at_call 39;(with_reducible refine (spec_l01Letters.calls k a0_1 true _ A4.out).mono ?_);rintro e w' ⟨rfl,⟨nd,rfl⟩⟩))
    go_ret
    exact ⟨by first|rfl|(simp [errW_none,errW_some] <;> rfl)|(simp [*,errW_none,errW_some] <;> rfl),by repeat (first|(with_reducible first|exact HB.out|apply zA|apply zN|apply zD|refine zS ?_ GE322.out)|exact HB.out)⟩
   ·rw [if_neg c6] at H
    have c6b0:(a0_1.toList == ([]:List UInt8)) = false:=beq_eq_false_iff_ne.mpr c6
    have c6b1:(a0_1.toList != ([]:List UInt8)) = true:=bne_iff_ne.mpr c6
    by_cases c9:(wrap64 ((a0_0.size:Int) + (a0_1.size:Int))) > 64
    ·rw [if_pos c9] at H
     have c9b0:decide (64 < (wrap64 ((a0_0.size:Int) + (a0_1.size:Int)))) = true:=decide_eq_true c9
     clear c9
     obtain rfl:=Option.some.inj H
     go_enter Try.func22,Try.ntmps22
     go_wp2_with (first|((with_reducible refine gate_dst (N:=1) rfl ?_);(try (refine gate_guard (by rfl) ?_;dsimp only));refine box_event ?hg (N:=1) ?hd (cs:=#[.string a0_0,.string a0_1]) (t:=25) ?hr ?_;(case hd=>rfl);(case hg=>rfl);(case hr=>first|(go_simp;done)|(go_simp;rfl));intro gb322 hg w10 hbox hb;have n0_:=aM (below_step (by repeat (first|(with_reducible first|exact HB.out|apply zA|apply zN|apply zD)|exact HB.out)) hb);have n1_:=aM (hbox);have n2_:=aM ((by rw [hg];exact (below_size (by repeat (first|(with_reducible first|exact HB.out|apply zA|apply zN|apply zD)|exact HB.out))):w.heap.size ≤ gb322));have n3_:=aM ((by rw [hg];exact (below_size (by repeat (first|(with_reducible first|exact HB.out|apply zA|apply zN|apply zD)|exact HB.out))):w.heap.size ≤ gb322));clear HB;have HB:=n0_;have BK322:=n1_;have GW322:=n2_;have GE322:=n3_;clear n0_ n1_ n2_ n3_;clear hb hbox hg;have hcz11_0:w10.cell? ⟨gb322,0,none⟩ = some (.string a0_0):=(blk_cell BK322.out 0).trans rfl;have hcz11_1:w10.cell? ⟨gb322,1,none⟩ = some (.string a0_1):=(blk_cell BK322.out 1).trans rfl;have hfz11_0:=blk_frozen BK322.out 0;have hfz11_1:=blk_frozen BK322.out 1)|((with_reducible refine gate_callee (f:=39) rfl ?_);refine goesL_ (some 5) rfl rfl Try.func39 (by kernel_rfl) rfl #[.string a0_0] rfl (by (try simp only [sM,sC,sN]);first|done|rfl|(simp only [List.length_drop,List.length_take];rfl)) ?_;(with_reducible refine (spec_l01Letters.calls k a0_0 true _ A2.out).mono ?_);rintro e w' ⟨rfl,⟨nd,rfl⟩⟩;refine ⟨_,rfl,?_⟩)|(go_at_call 39;(with_reducible refine (spec_l01Letters.calls k a0_1 true _ A4.out).mono ?_);rintro e w' ⟨rfl,⟨nd,rfl⟩⟩))
     go_ret
     exact ⟨by first|rfl|(simp [errW_none,errW_some] <;> rfl)|(simp [*,errW_none,errW_some] <;> rfl),by repeat (first|(with_reducible first|exact HB.out|apply zA|apply zN|apply zD|refine zS ?_ GE322.out)|exact HB.out)⟩
    ·rw [if_neg c9] at H
     have c9b0:decide (64 < (wrap64 ((a0_0.size:Int) + (a0_1.size:Int)))) = false:=decide_eq_false c9
     clear c9
     replace H:=Option.bind_eq_some_iff.mp H
     obtain ⟨⟨t325,t326⟩,A120,H⟩:=H
     replace H:(some (t325.toList == a0_0.toList && (t326.toList == a0_1.toList))) = some r:=H
     have A12:=aM A120
     clear A120
     obtain rfl:=Option.some.inj H
     go_enter Try.func22,Try.ntmps22
     try go_wp2_with (first|((with_reducible refine gate_dst (N:=1) rfl ?_);(try (refine gate_guard (by rfl) ?_;dsimp only));refine box_event ?hg (N:=1) ?hd (cs:=#[.string a0_0,.string a0_1]) (t:=25) ?hr ?_;(case hd=>rfl);(case hg=>rfl);(case hr=>first|(go_simp;done)|(go_simp;rfl));intro gb322 hg w13 hbox hb;have n0_:=aM (below_step (by repeat (first|(with_reducible first|exact HB.out|apply zA|apply zN|apply zD)|exact HB.out)) hb);have n1_:=aM (hbox);have n2_:=aM ((by rw [hg];exact (below_size (by repeat (first|(with_reducible first|exact HB.out|apply zA|apply zN|apply zD)|exact HB.out))):w.heap.size ≤ gb322));have n3_:=aM ((by rw [hg];exact (below_size (by repeat (first|(with_reducible first|exact HB.out|apply zA|apply zN|apply zD)|exact HB.out))):w.heap.size ≤ gb322));clear HB;have HB:=n0_;have BK322:=n1_;have GW322:=n2_;have GE322:=n3_;clear n0_ n1_ n2_ n3_;clear hb hbox hg;have hcz14_0:w13.cell? ⟨gb322,0,none⟩ = some (.string a0_0):=(blk_cell BK322.out 0).trans rfl;have hcz14_1:w13.cell? ⟨gb322,1,none⟩ = some (.string a0_1):=(blk_cell BK322.out 1).trans rfl;have hfz14_0:=blk_frozen BK322.out 0;have hfz14_1:=blk_frozen BK322.out 1)|((with_reducible refine gate_callee (f:=39) rfl ?_);refine goesL_ (some 5) rfl rfl Try.func39 (by kernel_rfl) rfl #[.string a0_0] rfl (by (try simp only [sM,sC,sN]);first|done|rfl|(simp only [List.length_drop,List.length_take];rfl)) ?_;(with_reducible refine (spec_l01Letters.calls k a0_0 true _ A2.out).mono ?_);rintro e w' ⟨rfl,⟨nd,rfl⟩⟩;refine ⟨_,rfl,?_⟩)|(go_at_call 39;(with_reducible refine (spec_l01Letters.calls k a0_1 true _ A4.out).mono ?_);rintro e w' ⟨rfl,⟨nd,rfl⟩⟩))
     (try (rw [drewN_self w13];generalize hq_:World.drewN w13 _ = w13;have n0_:Aside0 (w13.heap[gb322]? = some (.cells #[.string a0_0,.string a0_1] 25 (0,0))):=⟨by rw [← hq_];exact (by (with_reducible repeat (first|apply yN|apply yD|apply yA));exact BK322.out)⟩;have n1_:Aside0 (Below w.heap.size w w13):=⟨by rw [← hq_];exact (by repeat (first|(with_reducible first|exact HB.out|apply zA|apply zN|apply zD|refine zS ?_ GE322.out)|exact HB.out))⟩;clear BK322 HB hq_;have BK322:=n0_;have HB:=n1_;clear n0_ n1_))
     replace BK322:=aM (yD BK322.out)
     replace HB:=aM (zD HB.out)
     refine start_ (n:=8) (S:=fun w'=>w'.cell? ⟨gb322,0,none⟩ = some (.string a0_0) ∧ w'.cell? ⟨gb322,1,none⟩ = some (.string a0_1)) (ds:=[]) #[fF,fF,fF,fF,fF,fF,fF,fF] (by kernel_rfl) rfl rfl ⟨(blk_cell BK322.out 0).trans rfl,(blk_cell BK322.out 1).trans rfl⟩ (fun hHeld=>?_);refine with_tabW spec_l01Seq.tab3 spec_l01Seq.bits3 (fun HT_ HW_=>?_)
     generalize w13.drew = w15 at BK322 HB hHeld ⊢
     refine pure_ (i:=0) (N:=some 28) (v:=?_) (a':=?_) #[tT,fF,fF,fF,fF,fF,fF,fF] rfl rfl (any_of HT_.out (by kernel_rfl)) (fun _ _ _ h=>h) (Or.inl ⟨by rfl,?_⟩) ?_ ?_
     rotate_left
     ·intro w'
      go_simp
      with_reducible rfl
     rotate_left
     ·simp only [Act.put,sI,sZ,sS,i64_w,i32_w]
      rfl
     refine pure_ (i:=2) (N:=some 30) (v:=?_) (a':=?_) #[tT,fF,tT,fF,fF,fF,fF,fF] rfl rfl (any_of HT_.out (by kernel_rfl)) (fun _ _ _ h=>h) (Or.inl ⟨by rfl,?_⟩) ?_ ?_
     rotate_left
     ·intro w'
      go_simp
      with_reducible rfl
     rotate_left
     ·simp only [Act.put,sI,sZ,sS,i64_w,i32_w]
      rfl
     refine take_ (i:=1) (N:=some 29) (v:=?_) (a':=?_) #[tT,tT,tT,fF,fF,fF,fF,fF] rfl rfl (take_ofW HT_.out HW_.out (by kernel_rfl)) (fun _ _ _ h=>h) (Or.inl ⟨by rfl,?_⟩) hHeld ?_ ?_
     rotate_left
     ·rintro w' ⟨s0,s1⟩
      go_simp
      with_reducible rfl
     rotate_left
     ·simp only [Act.put,sI,sZ,sS,i64_w,i32_w]
      rfl
     refine take_ (i:=3) (N:=some 31) (v:=?_) (a':=?_) #[tT,tT,tT,tT,fF,fF,fF,fF] rfl rfl (take_ofW HT_.out HW_.out (by kernel_rfl)) (fun _ _ _ h=>h) (Or.inl ⟨by rfl,?_⟩) hHeld ?_ ?_
     rotate_left
     ·rintro w' ⟨s0,s1⟩
      go_simp
      with_reducible rfl
     rotate_left
     ·simp only [Act.put,sI,sZ,sS,i64_w,i32_w]
      rfl
     refine take_ (i:=5) (N:=some 33) (v:=?_) (a':=?_) #[tT,tT,tT,tT,fF,tT,fF,fF] rfl rfl (take_ofW HT_.out HW_.out (by kernel_rfl)) (fun _ _ _ h=>h) (Or.inl ⟨by rfl,?_⟩) hHeld ?_ ?_
     rotate_left
     ·rintro w' ⟨s0,s1⟩
      go_simp
      with_reducible rfl
     rotate_left
     ·simp only [Act.put,sI,sZ,sS,i64_w,i32_w]
      rfl
     refine one_ (i:=4) (N:=some 32) #[tT,tT,tT,tT,tT,tT,fF,fF] rfl rfl (one_of HT_.out (by kernel_rfl)) (by decide) (fun K hK=>?_)
     refine goes_ Try.func35 (by kernel_rfl) rfl #[.string a0_0,.string a0_1] (by rfl) rfl rfl (by (try simp only [sM,sC,sN]);first|done|rfl|(simp only [List.length_drop,List.length_take];rfl)) ?_
     with_reducible refine (spec_l01Canonical.calls k a0_0 a0_1 t325 t326 _ A12.out).mono ?_
     rintro e w16 ⟨rfl,hb⟩
     refine ⟨_,rfl,?_⟩
     replace BK322:=aM (blk_below (g:=gb322) (o:=.cells #[.string a0_0,.string a0_1] 25 (0,0)) (by (with_reducible repeat (first|apply yN|apply yD|apply yA));exact BK322.out) hb)
     replace HB:=aM (below_step (by repeat (first|(with_reducible first|exact HB.out|apply zA|apply zN|apply zD|refine zS ?_ GE322.out)|exact HB.out)) hb)
     (try clear hb)
     refine hK.out _ _ ⟨(blk_cell BK322.out 0).trans rfl,(blk_cell BK322.out 1).trans rfl⟩ (fun hHeld=>?_)
     clear hK K
     refine norm_ (a':=?_) ?_ ?_
     rotate_left
     ·show Act.put _ (some 32) _ = _
      simp only [Act.put,sI,sZ,sS,i64_w,i32_w]
      rfl
     refine pure_ (i:=6) (N:=some 34) (v:=?_) (a':=?_) #[tT,tT,tT,tT,tT,tT,tT,fF] rfl rfl (any_of HT_.out (by kernel_rfl)) (fun _ _ _ h=>h) (Or.inl ⟨by rfl,?_⟩) ?_ ?_
     rotate_left
     ·intro w'
      go_simp
      with_reducible rfl
     rotate_left
     ·simp only [Act.put,sI,sZ,sS,i64_w,i32_w]
      rfl
     refine pure_ (i:=7) (N:=some 2) (v:=?_) (a':=?_) #[tT,tT,tT,tT,tT,tT,tT,tT] rfl rfl (any_of HT_.out (by kernel_rfl)) (fun _ _ _ h=>h) (Or.inl ⟨by rfl,?_⟩) ?_ ?_
     rotate_left
     ·intro w'
      go_simp
      with_reducible rfl
     rotate_left
     ·simp only [Act.put,sI,sZ,sS,i64_w,i32_w]
      rfl
     refine done_ (done_of HT_.out (by kernel_rfl)) ?_
     try go_wp2
     go_ret
     exact ⟨by first|rfl|(simp [errW_none,errW_some] <;> rfl)|(simp [*,errW_none,errW_some] <;> rfl),by repeat (first|(with_reducible first|exact HB.out|apply zA|apply zN|apply zD|refine zS ?_ GE322.out)|exact HB.out)⟩
  ·replace c5:=Bool.eq_false_iff.mpr c5
   subst c5
   have H1:(some false) = some r:=by rw [if_neg (show ¬ (false = true) by decide)] at H;exact H
   clear H
   have H:=H1
   clear H1
   obtain rfl:=Option.some.inj H
   go_enter Try.func22,Try.ntmps22
   go_wp2_with (first|((with_reducible refine gate_dst (N:=1) rfl ?_);(try (refine gate_guard (by rfl) ?_;dsimp only));refine box_event ?hg (N:=1) ?hd (cs:=#[.string a0_0,.string a0_1]) (t:=25) ?hr ?_;(case hd=>rfl);(case hg=>rfl);(case hr=>first|(go_simp;done)|(go_simp;rfl));intro gb322 hg w17 hbox hb;have n0_:=aM (below_step (by repeat (first|(with_reducible first|exact HB.out|apply zA|apply zN|apply zD)|exact HB.out)) hb);have n1_:=aM (hbox);have n2_:=aM ((by rw [hg];exact (below_size (by repeat (first|(with_reducible first|exact HB.out|apply zA|apply zN|apply zD)|exact HB.out))):w.heap.size ≤ gb322));have n3_:=aM ((by rw [hg];exact (below_size (by repeat (first|(with_reducible first|exact HB.out|apply zA|apply zN|apply zD)|exact HB.out))):w.heap.size ≤ gb322));clear HB;have HB:=n0_;have BK322:=n1_;have GW322:=n2_;have GE322:=n3_;clear n0_ n1_ n2_ n3_;clear hb hbox hg;have hcz18_0:w17.cell? ⟨gb322,0,none⟩ = some (.string a0_0):=(blk_cell BK322.out 0).trans rfl;have hcz18_1:w17.cell? ⟨gb322,1,none⟩ = some (.string a0_1):=(blk_cell BK322.out 1).trans rfl;have hfz18_0:=blk_frozen BK322.out 0;have hfz18_1:=blk_frozen BK322.out 1)|((with_reducible refine gate_callee (f:=39) rfl ?_);refine goesL_ (some 5) rfl rfl Try.func39 (by kernel_rfl) rfl #[.string a0_0] rfl (by (try simp only [sM,sC,sN]);first|done|rfl|(simp only [List.length_drop,List.length_take];rfl)) ?_;(with_reducible refine (spec_l01Letters.calls k a0_0 true _ A2.out).mono ?_);rintro e w' ⟨rfl,⟨nd,rfl⟩⟩;refine ⟨_,rfl,?_⟩)|(go_at_call 39;(with_reducible refine (spec_l01Letters.calls k a0_1 false _ A4.out).mono ?_);rintro e w' ⟨rfl,⟨nd,rfl⟩⟩))
   go_ret
   exact ⟨by first|rfl|(simp [errW_none,errW_some] <;> rfl)|(simp [*,errW_none,errW_some] <;> rfl),by repeat (first|(with_reducible first|exact HB.out|apply zA|apply zN|apply zD|refine zS ?_ GE322.out)|exact HB.out)⟩
 ·replace c3:=Bool.eq_false_iff.mpr c3
  subst c3
  have H1:(some false) = some r:=by rw [if_neg (show ¬ (false = true) by decide)] at H;exact H
  clear H
  have H:=H1
  clear H1
  obtain rfl:=Option.some.inj H
  go_enter Try.func22,Try.ntmps22
  go_wp2_with (first|((with_reducible refine gate_dst (N:=1) rfl ?_);(try (refine gate_guard (by rfl) ?_;dsimp only));refine box_event ?hg (N:=1) ?hd (cs:=#[.string a0_0,.string a0_1]) (t:=25) ?hr ?_;(case hd=>rfl);(case hg=>rfl);(case hr=>first|(go_simp;done)|(go_simp;rfl));intro gb322 hg w19 hbox hb;have n0_:=aM (below_step (by repeat (first|(with_reducible first|exact HB.out|apply zA|apply zN|apply zD)|exact HB.out)) hb);have n1_:=aM (hbox);have n2_:=aM ((by rw [hg];exact (below_size (by repeat (first|(with_reducible first|exact HB.out|apply zA|apply zN|apply zD)|exact HB.out))):w.heap.size ≤ gb322));have n3_:=aM ((by rw [hg];exact (below_size (by repeat (first|(with_reducible first|exact HB.out|apply zA|apply zN|apply zD)|exact HB.out))):w.heap.size ≤ gb322));clear HB;have HB:=n0_;have BK322:=n1_;have GW322:=n2_;have GE322:=n3_;clear n0_ n1_ n2_ n3_;clear hb hbox hg;have hcz20_0:w19.cell? ⟨gb322,0,none⟩ = some (.string a0_0):=(blk_cell BK322.out 0).trans rfl;have hcz20_1:w19.cell? ⟨gb322,1,none⟩ = some (.string a0_1):=(blk_cell BK322.out 1).trans rfl;have hfz20_0:=blk_frozen BK322.out 0;have hfz20_1:=blk_frozen BK322.out 1)|((with_reducible refine gate_callee (f:=39) rfl ?_);refine goesL_ (some 5) rfl rfl Try.func39 (by kernel_rfl) rfl #[.string a0_0] rfl (by (try simp only [sM,sC,sN]);first|done|rfl|(simp only [List.length_drop,List.length_take];rfl)) ?_;(with_reducible refine (spec_l01Letters.calls k a0_0 false _ A2.out).mono ?_);rintro e w' ⟨rfl,⟨nd,rfl⟩⟩;refine ⟨_,rfl,?_⟩))
  go_ret
  exact ⟨by first|rfl|(simp [errW_none,errW_some] <;> rfl)|(simp [*,errW_none,errW_some] <;> rfl),by repeat (first|(with_reducible first|exact HB.out|apply zA|apply zN|apply zD|refine zS ?_ GE322.out)|exact HB.out)⟩
end Go.Proofs.Ytccinmopfchjlaa.Q
end
section
namespace Go.Proofs.Ytccinmopfchjlaa.Q
open Go.Proofs.YtccinmopfchjlaaW.Ext
open Go.RowKit Go.Proofs.YtccinmopfchjlaaW.PrintWords Go.Proofs.YtccinmopfchjlaaW.PrintLast Go.Proofs.YtccinmopfchjlaaW.PrintMore
attribute [local go_sem] max2_int min2_int max_two min_two max_three min_three max_four min_four   -- for this text's walks alone
set_option linter.unusedVariables false
set_option linter.unusedSimpArgs false
def spec_l01At.f (a0_0:ByteArray) (a0_1:ByteArray) (a1:Int):Option (Int):=if a1 < (a0_0.size:Int) then (if 0 ≤ a1 then (some (bt a0_0 a1)) else (none)) else (if (a0_1.size:Int) = 0 then (none) else (if 0 ≤ (Int.tmod (wrap64 (a1 - (a0_0.size:Int))) (a0_1.size:Int)) then (if (Int.tmod (wrap64 (a1 - (a0_0.size:Int))) (a0_1.size:Int)) < (a0_1.size:Int) then (some (bt a0_1 (Int.tmod (wrap64 (a1 - (a0_0.size:Int))) (a0_1.size:Int)))) else (none)) else (none)))
set_option maxHeartbeats 8000000 in
set_option maxRecDepth 100000 in
theorem spec_l01At.calls (a0_0:ByteArray) (a0_1:ByteArray) (a1:Int) (r:Int) (w:World) (h:spec_l01At.f a0_0 a0_1 a1 = some r) :
  Calls Try.prog 40 #[.agg #[.string a0_0,.string a0_1],.int .i64 a1] w fun e w'=>e = .returned (.int .u8 r) ∧ Below w.heap.size w w':=by
 have hu25:=Try.underlying25
 have HB:=aM (Below.refl w.heap.size w)
 have H:(if a1 < (a0_0.size:Int) then (if 0 ≤ a1 then (some (bt a0_0 a1)) else (none)) else (if (a0_1.size:Int) = 0 then (none) else (if 0 ≤ (Int.tmod (wrap64 (a1 - (a0_0.size:Int))) (a0_1.size:Int)) then (if (Int.tmod (wrap64 (a1 - (a0_0.size:Int))) (a0_1.size:Int)) < (a0_1.size:Int) then (some (bt a0_1 (Int.tmod (wrap64 (a1 - (a0_0.size:Int))) (a0_1.size:Int)))) else (none)) else (none)))) = some r:=h
 clear h
 by_cases c3:a1 < (a0_0.size:Int)
 ·rw [if_pos c3] at H
  have c3b0:decide (a1 < (a0_0.size:Int)) = true:=decide_eq_true c3
  clear c3
  by_cases c4:0 ≤ a1
  ·rw [if_pos c4] at H
   have c4b0:decide (0 ≤ a1) = true:=decide_eq_true c4
   clear c4
   obtain rfl:=Option.some.inj H
   go_enter Try.func40,Try.ntmps40
   go_wp2_with (first|((with_reducible refine gate_dst (N:=2) rfl ?_);refine box_event ?hg (N:=2) ?hd (cs:=#[.string a0_0,.string a0_1]) (t:=25) ?hr ?_;(case hd=>rfl);(case hg=>rfl);(case hr=>first|(go_simp;done)|(go_simp;rfl));intro gb327 hg w6 hbox hb;have n0_:=aM (below_step (by repeat (first|(with_reducible first|exact HB.out|apply zA|apply zN|apply zD)|exact HB.out)) hb);have n1_:=aM (hbox);have n2_:=aM ((by rw [hg];exact (below_size (by repeat (first|(with_reducible first|exact HB.out|apply zA|apply zN|apply zD)|exact HB.out))):w.heap.size ≤ gb327));have n3_:=aM ((by rw [hg];exact (below_size (by repeat (first|(with_reducible first|exact HB.out|apply zA|apply zN|apply zD)|exact HB.out))):w.heap.size ≤ gb327));clear HB;have HB:=n0_;have BK327:=n1_;have GW327:=n2_;have GE327:=n3_;clear n0_ n1_ n2_ n3_;clear hb hbox hg;have hcz7_0:w6.cell? ⟨gb327,0,none⟩ = some (.string a0_0):=(blk_cell BK327.out 0).trans rfl;have hcz7_1:w6.cell? ⟨gb327,1,none⟩ = some (.string a0_1):=(blk_cell BK327.out 1).trans rfl;have hfz7_0:=blk_frozen BK327.out 0;have hfz7_1:=blk_frozen BK327.out 1;have p5:0 ≤ (a1:Int):=of_decide_eq_true (by first|(with_reducible assumption)|assumption);have q5:a1 < (a0_0.size:Int):=of_decide_eq_true (by first|(with_reducible assumption)|assumption);have hx5:=bt_at a0_0 a1;replace p5:=eq_true p5;replace q5:=eq_true q5))
   repeat (go_quiet (first|((with_reducible refine gate_dst (N:=2) rfl ?_);refine box_event ?hg (N:=2) ?hd (cs:=#[.string a0_0,.string a0_1]) (t:=25) ?hr ?_;(case hd=>rfl);(case hg=>rfl);(case hr=>first|(go_simp;done)|(go_simp;rfl));intro gb327 hg w6 hbox hb;have n0_:=aM (below_step (by repeat (first|(with_reducible first|exact HB.out|apply zA|apply zN|apply zD)|exact HB.out)) hb);have n1_:=aM (hbox);have n2_:=aM ((by rw [hg];exact (below_size (by repeat (first|(with_reducible first|exact HB.out|apply zA|apply zN|apply zD)|exact HB.out))):w.heap.size ≤ gb327));have n3_:=aM ((by rw [hg];exact (below_size (by repeat (first|(with_reducible first|exact HB.out|apply zA|apply zN|apply zD)|exact HB.out))):w.heap.size ≤ gb327));clear HB;have HB:=n0_;have BK327:=n1_;have GW327:=n2_;have GE327:=n3_;clear n0_ n1_ n2_ n3_;clear hb hbox hg;have hcz7_0:w6.cell? ⟨gb327,0,none⟩ = some (.string a0_0):=(blk_cell BK327.out 0).trans rfl;have hcz7_1:w6.cell? ⟨gb327,1,none⟩ = some (.string a0_1):=(blk_cell BK327.out 1).trans rfl;have hfz7_0:=blk_frozen BK327.out 0;have hfz7_1:=blk_frozen BK327.out 1;have p5:0 ≤ (a1:Int):=of_decide_eq_true (by first|(with_reducible assumption)|assumption);have q5:a1 < (a0_0.size:Int):=of_decide_eq_true (by first|(with_reducible assumption)|assumption);have hx5:=bt_at a0_0 a1;replace p5:=eq_true p5;replace q5:=eq_true q5));try go_wp2_with (first|((with_reducible refine gate_dst (N:=2) rfl ?_);refine box_event ?hg (N:=2) ?hd (cs:=#[.string a0_0,.string a0_1]) (t:=25) ?hr ?_;(case hd=>rfl);(case hg=>rfl);(case hr=>first|(go_simp;done)|(go_simp;rfl));intro gb327 hg w6 hbox hb;have n0_:=aM (below_step (by repeat (first|(with_reducible first|exact HB.out|apply zA|apply zN|apply zD)|exact HB.out)) hb);have n1_:=aM (hbox);have n2_:=aM ((by rw [hg];exact (below_size (by repeat (first|(with_reducible first|exact HB.out|apply zA|apply zN|apply zD)|exact HB.out))):w.heap.size ≤ gb327));have n3_:=aM ((by rw [hg];exact (below_size (by repeat (first|(with_reducible first|exact HB.out|apply zA|apply zN|apply zD)|exact HB.out))):w.heap.size ≤ gb327));clear HB;have HB:=n0_;have BK327:=n1_;have GW327:=n2_;have GE327:=n3_;clear n0_ n1_ n2_ n3_;clear hb hbox hg;have hcz7_0:w6.cell? ⟨gb327,0,none⟩ = some (.string a0_0):=(blk_cell BK327.out 0).trans rfl;have hcz7_1:w6.cell? ⟨gb327,1,none⟩ = some (.string a0_1):=(blk_cell BK327.out 1).trans rfl;have hfz7_0:=blk_frozen BK327.out 0;have hfz7_1:=blk_frozen BK327.out 1;have p5:0 ≤ (a1:Int):=of_decide_eq_true (by first|(with_reducible assumption)|assumption);have q5:a1 < (a0_0.size:Int):=of_decide_eq_true (by first|(with_reducible assumption)|assumption);have hx5:=bt_at a0_0 a1;replace p5:=eq_true p5;replace q5:=eq_true q5)))
   go_ret
   exact ⟨by first|rfl|(simp [errW_none,errW_some] <;> rfl)|(simp [*,errW_none,errW_some] <;> rfl),by repeat (first|(with_reducible first|exact HB.out|apply zA|apply zN|apply zD|refine zS ?_ GE327.out)|exact HB.out)⟩
  ·rw [if_neg c4] at H
   exact absurd H (by simp)
 ·rw [if_neg c3] at H
  have c3b0:decide (a1 < (a0_0.size:Int)) = false:=decide_eq_false c3
  clear c3
  by_cases c8:(a0_1.size:Int) = 0
  ·rw [if_pos c8] at H
   exact absurd H (by simp)
  ·rw [if_neg c8] at H
   have c8b0:((a0_1.size:Int) == 0) = false:=beq_eq_false_iff_ne.mpr c8
   have c8b1:((a0_1.size:Int) != 0) = true:=bne_iff_ne.mpr c8
   obtain ⟨ji9,hji9⟩:∃ j_:Int,(Int.tmod (wrap64 (a1 - (a0_0.size:Int))) (a0_1.size:Int)) = j_:=⟨_,rfl⟩
   replace H:(if 0 ≤ (ji9) then (if (ji9) < (a0_1.size:Int) then (some (bt a0_1 (ji9))) else (none)) else (none)) = some r:=by first|(rw [hji9] at H;exact H)|(simp only [hji9] at H ⊢;exact H)
   by_cases c10:0 ≤ (ji9)
   ·rw [if_pos c10] at H
    have c10b0:decide (0 ≤ (ji9)) = true:=decide_eq_true c10
    clear c10
    by_cases c11:(ji9) < (a0_1.size:Int)
    ·rw [if_pos c11] at H
     have c11b0:decide ((ji9) < (a0_1.size:Int)) = true:=decide_eq_true c11
     clear c11
     obtain rfl:=Option.some.inj H
     go_enter Try.func40,Try.ntmps40
     go_wp2_with (first|((with_reducible refine gate_dst (N:=2) rfl ?_);refine box_event ?hg (N:=2) ?hd (cs:=#[.string a0_0,.string a0_1]) (t:=25) ?hr ?_;(case hd=>rfl);(case hg=>rfl);(case hr=>first|(go_simp;done)|(go_simp;rfl));intro gb327 hg w13 hbox hb;have n0_:=aM (below_step (by repeat (first|(with_reducible first|exact HB.out|apply zA|apply zN|apply zD)|exact HB.out)) hb);have n1_:=aM (hbox);have n2_:=aM ((by rw [hg];exact (below_size (by repeat (first|(with_reducible first|exact HB.out|apply zA|apply zN|apply zD)|exact HB.out))):w.heap.size ≤ gb327));have n3_:=aM ((by rw [hg];exact (below_size (by repeat (first|(with_reducible first|exact HB.out|apply zA|apply zN|apply zD)|exact HB.out))):w.heap.size ≤ gb327));clear HB;have HB:=n0_;have BK327:=n1_;have GW327:=n2_;have GE327:=n3_;clear n0_ n1_ n2_ n3_;clear hb hbox hg;have hcz14_0:w13.cell? ⟨gb327,0,none⟩ = some (.string a0_0):=(blk_cell BK327.out 0).trans rfl;have hcz14_1:w13.cell? ⟨gb327,1,none⟩ = some (.string a0_1):=(blk_cell BK327.out 1).trans rfl;have hfz14_0:=blk_frozen BK327.out 0;have hfz14_1:=blk_frozen BK327.out 1;have p12:0 ≤ ((ji9):Int):=of_decide_eq_true (by first|(with_reducible assumption)|assumption);have q12:(ji9) < (a0_1.size:Int):=of_decide_eq_true (by first|(with_reducible assumption)|assumption);have hx12:=bt_at a0_1 (ji9);replace p12:=eq_true p12;replace q12:=eq_true q12))
     repeat (go_quiet (first|((with_reducible refine gate_dst (N:=2) rfl ?_);refine box_event ?hg (N:=2) ?hd (cs:=#[.string a0_0,.string a0_1]) (t:=25) ?hr ?_;(case hd=>rfl);(case hg=>rfl);(case hr=>first|(go_simp;done)|(go_simp;rfl));intro gb327 hg w13 hbox hb;have n0_:=aM (below_step (by repeat (first|(with_reducible first|exact HB.out|apply zA|apply zN|apply zD)|exact HB.out)) hb);have n1_:=aM (hbox);have n2_:=aM ((by rw [hg];exact (below_size (by repeat (first|(with_reducible first|exact HB.out|apply zA|apply zN|apply zD)|exact HB.out))):w.heap.size ≤ gb327));have n3_:=aM ((by rw [hg];exact (below_size (by repeat (first|(with_reducible first|exact HB.out|apply zA|apply zN|apply zD)|exact HB.out))):w.heap.size ≤ gb327));clear HB;have HB:=n0_;have BK327:=n1_;have GW327:=n2_;have GE327:=n3_;clear n0_ n1_ n2_ n3_;clear hb hbox hg;have hcz14_0:w13.cell? ⟨gb327,0,none⟩ = some (.string a0_0):=(blk_cell BK327.out 0).trans rfl;have hcz14_1:w13.cell? ⟨gb327,1,none⟩ = some (.string a0_1):=(blk_cell BK327.out 1).trans rfl;have hfz14_0:=blk_frozen BK327.out 0;have hfz14_1:=blk_frozen BK327.out 1;have p12:0 ≤ ((ji9):Int):=of_decide_eq_true (by first|(with_reducible assumption)|assumption);have q12:(ji9) < (a0_1.size:Int):=of_decide_eq_true (by first|(with_reducible assumption)|assumption);have hx12:=bt_at a0_1 (ji9);replace p12:=eq_true p12;replace q12:=eq_true q12));try go_wp2_with (first|((with_reducible refine gate_dst (N:=2) rfl ?_);refine box_event ?hg (N:=2) ?hd (cs:=#[.string a0_0,.string a0_1]) (t:=25) ?hr ?_;(case hd=>rfl);(case hg=>rfl);(case hr=>first|(go_simp;done)|(go_simp;rfl));intro gb327 hg w13 hbox hb;have n0_:=aM (below_step (by repeat (first|(with_reducible first|exact HB.out|apply zA|apply zN|apply zD)|exact HB.out)) hb);have n1_:=aM (hbox);have n2_:=aM ((by rw [hg];exact (below_size (by repeat (first|(with_reducible first|exact HB.out|apply zA|apply zN|apply zD)|exact HB.out))):w.heap.size ≤ gb327));have n3_:=aM ((by rw [hg];exact (below_size (by repeat (first|(with_reducible first|exact HB.out|apply zA|apply zN|apply zD)|exact HB.out))):w.heap.size ≤ gb327));clear HB;have HB:=n0_;have BK327:=n1_;have GW327:=n2_;have GE327:=n3_;clear n0_ n1_ n2_ n3_;clear hb hbox hg;have hcz14_0:w13.cell? ⟨gb327,0,none⟩ = some (.string a0_0):=(blk_cell BK327.out 0).trans rfl;have hcz14_1:w13.cell? ⟨gb327,1,none⟩ = some (.string a0_1):=(blk_cell BK327.out 1).trans rfl;have hfz14_0:=blk_frozen BK327.out 0;have hfz14_1:=blk_frozen BK327.out 1;have p12:0 ≤ ((ji9):Int):=of_decide_eq_true (by first|(with_reducible assumption)|assumption);have q12:(ji9) < (a0_1.size:Int):=of_decide_eq_true (by first|(with_reducible assumption)|assumption);have hx12:=bt_at a0_1 (ji9);replace p12:=eq_true p12;replace q12:=eq_true q12)))
     go_ret
     exact ⟨by first|rfl|(simp [errW_none,errW_some] <;> rfl)|(simp only [← hji9];first|rfl|(simp [errW_none,errW_some] <;> rfl))|(simp [*,errW_none,errW_some] <;> rfl),by repeat (first|(with_reducible first|exact HB.out|apply zA|apply zN|apply zD|refine zS ?_ GE327.out)|exact HB.out)⟩
    ·rw [if_neg c11] at H
     exact absurd H (by simp)
   ·rw [if_neg c10] at H
    exact absurd H (by simp)
def spec_l02Rho.l0:Nat → Int → Int → ByteArray → ByteArray → Option (Int)
 | 0,_,_,_,_=>none
 | k + 1,x1,x5,x329000,x329001=>if x5 ≤ (wrap64 (x1 + (wrap64 ((x329000.size:Int) + (x329001.size:Int))))) then ((spec_l01At.f x329000 x329001 (wrap64 (x5 - 1))).bind fun t329=>((spec_l01At.f x329000 x329001 (wrap64 ((wrap64 (x5 - x1)) - 1))).bind fun t330=>(if t329 = t330 then (spec_l02Rho.l0 k x1 (wrap64 (x5 + 1)) x329000 x329001) else (some x5)))) else (some 0)
def spec_l02Rho.f (k:Nat) (a0_0:ByteArray) (a0_1:ByteArray) (a1:Int):Option (Int):=spec_l02Rho.l0 k a1 (wrap64 (a1 + 1)) a0_0 a0_1
theorem spec_l02Rho.mono_l:∀ k,(∀ y0 y1 y2 y3,LeO (spec_l02Rho.l0 k y0 y1 y2 y3) (spec_l02Rho.l0 (k + 1) y0 y1 y2 y3))
 | 0=>fun _ _ _ _ r h=>by simp [spec_l02Rho.l0] at h
 | k + 1=>by
  have ih0:=spec_l02Rho.mono_l k
  ·intro y0 y1 y2 y3
   unfold spec_l02Rho.l0
   repeat' first
   | (with_reducible exact ih0 _ _ _ _)
   | (with_reducible exact LeO.refl _)
   | (with_reducible exact LeO.none _)
   | (with_reducible refine LeO.ite ?_ ?_)
   | (with_reducible refine LeO.bind ?_ (fun _=>?_))
   | exact ih0 _ _ _ _
   | exact LeO.none _
   | refine LeO.ite ?_ ?_
   | refine LeO.bind ?_ (fun _=>?_)
theorem spec_l02Rho.mono:∀ a0 a1 a2 k,LeO (spec_l02Rho.f k a0 a1 a2) (spec_l02Rho.f (k + 1) a0 a1 a2):=by
 intro a0 a1 a2 k
 have ih0:=spec_l02Rho.mono_l k
 unfold spec_l02Rho.f
 repeat' first
   | (with_reducible exact ih0 _ _ _ _)
   | (with_reducible exact LeO.refl _)
   | (with_reducible exact LeO.none _)
   | (with_reducible refine LeO.ite ?_ ?_)
   | (with_reducible refine LeO.bind ?_ (fun _=>?_))
   | exact ih0 _ _ _ _
   | exact LeO.none _
   | refine LeO.ite ?_ ?_
   | refine LeO.bind ?_ (fun _=>?_)
def spec_l02Rho.T4:Bool × List (List Nat × List Nat):=(true,[([],[]),([],[]),([1],[1]),([0,2],[0,2]),([],[]),([],[]),([],[]),([5,6],[5,6]),([7],[7]),([4,8,3],[4,8]),([3,9],[3,9])])
def spec_l02Rho.B4:List Nat:=[0,0,2,7,0,0,0,96,224,511,1023]
theorem spec_l02Rho.tab4:rtab .any (opsOf Try.f24 4) = spec_l02Rho.T4:=by kernel_rfl
theorem spec_l02Rho.bits4:waitsOk spec_l02Rho.T4.2 spec_l02Rho.B4 = true:=by kernel_rfl
set_option maxHeartbeats 8000000 in
set_option maxRecDepth 100000 in
theorem spec_l02Rho.calls (k:Nat) (a0_0:ByteArray) (a0_1:ByteArray) (a1:Int) (r:Int) (w:World) (h:spec_l02Rho.f k a0_0 a0_1 a1 = some r) :
  Calls Try.prog 24 #[.agg #[.string a0_0,.string a0_1],.int .i64 a1] w fun e w'=>e = .returned (.int .i64 r) ∧ Below w.heap.size w w':=by
 have hu25:=Try.underlying25
 have HB:=aM (Below.refl w.heap.size w)
 have H:(spec_l02Rho.l0 k a1 (wrap64 (a1 + 1)) a0_0 a0_1) = some r:=h
 clear h
 have H':=aM H
 clear H
 go_enter Try.func24,Try.ntmps24
 go_wp2_with (first|((with_reducible refine gate_dst (N:=2) rfl ?_);refine box_event ?hg (N:=2) ?hd (cs:=#[.string a0_0,.string a0_1]) (t:=25) ?hr ?_;(case hd=>rfl);(case hg=>rfl);(case hr=>first|(go_simp;done)|(go_simp;rfl));intro gb328 hg w3 hbox hb;have n0_:=aM (below_step (by repeat (first|(with_reducible first|exact HB.out|apply zA|apply zN|apply zD)|exact HB.out)) hb);have n1_:=aM (hbox);have n2_:=aM ((by rw [hg];exact (below_size (by repeat (first|(with_reducible first|exact HB.out|apply zA|apply zN|apply zD)|exact HB.out))):w.heap.size ≤ gb328));have n3_:=aM ((by rw [hg];exact (below_size (by repeat (first|(with_reducible first|exact HB.out|apply zA|apply zN|apply zD)|exact HB.out))):w.heap.size ≤ gb328));clear HB;have HB:=n0_;have BK328:=n1_;have GW328:=n2_;have GE328:=n3_;clear n0_ n1_ n2_ n3_;clear hb hbox hg))
 go_loopg [5] k (fun kq v5 w'=>∃ (x5_1:Int),v5 = .int .i64 x5_1 ∧ Aside0 (spec_l02Rho.l0 kq a1 x5_1 a0_0 a0_1 = some r) ∧ Aside0 (kq ≤ k) ∧ Aside0 (w'.heap[gb328]? = some (.cells #[.string a0_0,.string a0_1] 25 (0,0))) ∧ Aside0 (Below w.heap.size w w'))
 case atStart=>exact ⟨(wrap64 (a1 + 1)),(by first|rfl|(simp;done)|(simp [*];done)),H',⟨Nat.le_refl _⟩,⟨by (with_reducible repeat (first|apply yN|apply yD|apply yA));exact BK328.out⟩,⟨by repeat (first|(with_reducible first|exact HB.out|apply zA|apply zN|apply zD|refine zS ?_ GE328.out)|exact HB.out)⟩⟩
 case round =>
  clear H'
  try clear c2
  try clear p2
  obtain ⟨x5_1,rfl,HA,HK1,BK328,HB⟩:=hrel
  cases gk with
  | zero=>exact absurd HA.out (by simp [spec_l02Rho.l0])
  | succ k1 =>
   have H:=HA.out
   clear HA
   simp only [spec_l02Rho.l0] at H
   by_cases c4:x5_1 ≤ (wrap64 (a1 + (wrap64 ((a0_0.size:Int) + (a0_1.size:Int)))))
   ·rw [if_pos c4] at H
    have c4b0:decide (x5_1 ≤ (wrap64 (a1 + (wrap64 ((a0_0.size:Int) + (a0_1.size:Int)))))) = true:=decide_eq_true c4
    clear c4
    replace H:=Option.bind_eq_some_iff.mp H
    obtain ⟨t329,A50,H⟩:=H
    replace H:((spec_l01At.f a0_0 a0_1 (wrap64 ((wrap64 (x5_1 - a1)) - 1))).bind fun t330=>(if t329 = t330 then (spec_l02Rho.l0 k1 a1 (wrap64 (x5_1 + 1)) a0_0 a0_1) else (some x5_1))) = some r:=H
    have A5:=aM A50
    clear A50
    replace H:=Option.bind_eq_some_iff.mp H
    obtain ⟨t330,A60,H⟩:=H
    replace H:(if t329 = t330 then (spec_l02Rho.l0 k1 a1 (wrap64 (x5_1 + 1)) a0_0 a0_1) else (some x5_1)) = some r:=H
    have A6:=aM A60
    clear A60
    by_cases c7:t329 = t330
    ·rw [if_pos c7] at H
     have c7b0:(t329 == t330) = true:=beq_iff_eq.mpr c7
     have c7b1:(t329 != t330) = false:=bne_eq_false_iff_eq.mpr c7
     clear c7
     have H':=aM H
     clear H
     have hcz8_0:wr.cell? ⟨gb328,0,none⟩ = some (.string a0_0):=(blk_cell BK328.out 0).trans rfl
     have hcz8_1:wr.cell? ⟨gb328,1,none⟩ = some (.string a0_1):=(blk_cell BK328.out 1).trans rfl
     have hfz8_0:=blk_frozen BK328.out 0
     have hfz8_1:=blk_frozen BK328.out 1
     try go_wp2
     replace BK328:=aM (yD BK328.out)
     replace HB:=aM (zD HB.out)
     refine start_ (n:=11) (S:=fun w'=>w'.cell? ⟨gb328,0,none⟩ = some (.string a0_0) ∧ w'.cell? ⟨gb328,1,none⟩ = some (.string a0_1)) (ds:=[]) #[fF,fF,fF,fF,fF,fF,fF,fF,fF,fF,fF] (by kernel_rfl) rfl rfl ⟨(blk_cell BK328.out 0).trans rfl,(blk_cell BK328.out 1).trans rfl⟩ (fun hHeld=>?_);refine with_tabW spec_l02Rho.tab4 spec_l02Rho.bits4 (fun HT_ HW_=>?_)
     generalize wr.drew = w9 at BK328 HB hHeld ⊢
     refine pure_ (i:=1) (N:=some 22) (v:=?_) (a':=?_) #[fF,tT,fF,fF,fF,fF,fF,fF,fF,fF,fF] rfl rfl (any_of HT_.out (by kernel_rfl)) (fun _ _ _ h=>h) (Or.inl ⟨by rfl,?_⟩) ?_ ?_
     rotate_left
     ·intro w'
      go_simp
      with_reducible rfl
     rotate_left
     ·simp only [Act.put,sI,sZ,sS,i64_w,i32_w]
      rfl
     refine pure_ (i:=2) (N:=some 23) (v:=?_) (a':=?_) #[fF,tT,tT,fF,fF,fF,fF,fF,fF,fF,fF] rfl rfl (any_of HT_.out (by kernel_rfl)) (fun _ _ _ h=>h) (Or.inl ⟨by rfl,?_⟩) ?_ ?_
     rotate_left
     ·intro w'
      go_simp
      with_reducible rfl
     rotate_left
     ·simp only [Act.put,sI,sZ,sS,i64_w,i32_w]
      rfl
     refine pure_ (i:=5) (N:=some 26) (v:=?_) (a':=?_) #[fF,tT,tT,fF,fF,tT,fF,fF,fF,fF,fF] rfl rfl (any_of HT_.out (by kernel_rfl)) (fun _ _ _ h=>h) (Or.inl ⟨by rfl,?_⟩) ?_ ?_
     rotate_left
     ·intro w'
      go_simp
      with_reducible rfl
     rotate_left
     ·simp only [Act.put,sI,sZ,sS,i64_w,i32_w]
      rfl
     refine pure_ (i:=6) (N:=some 27) (v:=?_) (a':=?_) #[fF,tT,tT,fF,fF,tT,tT,fF,fF,fF,fF] rfl rfl (any_of HT_.out (by kernel_rfl)) (fun _ _ _ h=>h) (Or.inl ⟨by rfl,?_⟩) ?_ ?_
     rotate_left
     ·intro w'
      go_simp
      with_reducible rfl
     rotate_left
     ·simp only [Act.put,sI,sZ,sS,i64_w,i32_w]
      rfl
     refine pure_ (i:=7) (N:=some 28) (v:=?_) (a':=?_) #[fF,tT,tT,fF,fF,tT,tT,tT,fF,fF,fF] rfl rfl (any_of HT_.out (by kernel_rfl)) (fun _ _ _ h=>h) (Or.inl ⟨by rfl,?_⟩) ?_ ?_
     rotate_left
     ·intro w'
      go_simp
      with_reducible rfl
     rotate_left
     ·simp only [Act.put,sI,sZ,sS,i64_w,i32_w]
      rfl
     refine pure_ (i:=8) (N:=some 29) (v:=?_) (a':=?_) #[fF,tT,tT,fF,fF,tT,tT,tT,tT,fF,fF] rfl rfl (any_of HT_.out (by kernel_rfl)) (fun _ _ _ h=>h) (Or.inl ⟨by rfl,?_⟩) ?_ ?_
     rotate_left
     ·intro w'
      go_simp
      with_reducible rfl
     rotate_left
     ·simp only [Act.put,sI,sZ,sS,i64_w,i32_w]
      rfl
     refine take_ (i:=0) (N:=some 21) (v:=?_) (a':=?_) #[tT,tT,tT,fF,fF,tT,tT,tT,tT,fF,fF] rfl rfl (take_ofW HT_.out HW_.out (by kernel_rfl)) (fun _ _ _ h=>h) (Or.inl ⟨by rfl,?_⟩) hHeld ?_ ?_
     rotate_left
     ·rintro w' ⟨s0,s1⟩
      go_simp
      with_reducible rfl
     rotate_left
     ·simp only [Act.put,sI,sZ,sS,i64_w,i32_w]
      rfl
     refine take_ (i:=4) (N:=some 25) (v:=?_) (a':=?_) #[tT,tT,tT,fF,tT,tT,tT,tT,tT,fF,fF] rfl rfl (take_ofW HT_.out HW_.out (by kernel_rfl)) (fun _ _ _ h=>h) (Or.inl ⟨by rfl,?_⟩) hHeld ?_ ?_
     rotate_left
     ·rintro w' ⟨s0,s1⟩
      go_simp
      with_reducible rfl
     rotate_left
     ·simp only [Act.put,sI,sZ,sS,i64_w,i32_w]
      rfl
     refine one_ (i:=3) (N:=some 24) #[tT,tT,tT,tT,tT,tT,tT,tT,tT,fF,fF] rfl rfl (one_of HT_.out (by kernel_rfl)) (by decide) (fun K hK=>?_)
     refine goes_ Try.func40 (by kernel_rfl) rfl #[.agg #[.string a0_0,.string a0_1],.int .i64 (wrap64 (x5_1 - 1))] (by rfl) rfl rfl (by (try simp only [sM,sC,sN]);first|done|rfl|(simp only [List.length_drop,List.length_take];rfl)) ?_
     with_reducible refine (spec_l01At.calls a0_0 a0_1 (wrap64 (x5_1 - 1)) t329 _ A5.out).mono ?_
     rintro e w10 ⟨rfl,hb⟩
     refine ⟨_,rfl,?_⟩
     replace BK328:=aM (blk_below (g:=gb328) (o:=.cells #[.string a0_0,.string a0_1] 25 (0,0)) (by (with_reducible repeat (first|apply yN|apply yD|apply yA));exact BK328.out) hb)
     replace HB:=aM (below_step (by repeat (first|(with_reducible first|exact HB.out|apply zA|apply zN|apply zD|refine zS ?_ GE328.out)|exact HB.out)) hb)
     (try clear hb)
     refine hK.out _ _ ⟨(blk_cell BK328.out 0).trans rfl,(blk_cell BK328.out 1).trans rfl⟩ (fun hHeld=>?_)
     clear hK K
     refine norm_ (a':=?_) ?_ ?_
     rotate_left
     ·show Act.put _ (some 24) _ = _
      simp only [Act.put,sI,sZ,sS,i64_w,i32_w]
      rfl
     refine one_ (i:=9) (N:=some 30) #[tT,tT,tT,tT,tT,tT,tT,tT,tT,tT,fF] rfl rfl (one_of HT_.out (by kernel_rfl)) (by decide) (fun K hK=>?_)
     refine goes_ Try.func40 (by kernel_rfl) rfl #[.agg #[.string a0_0,.string a0_1],.int .i64 (wrap64 ((wrap64 (x5_1 - a1)) - 1))] (by rfl) rfl rfl (by (try simp only [sM,sC,sN]);first|done|rfl|(simp only [List.length_drop,List.length_take];rfl)) ?_
     with_reducible refine (spec_l01At.calls a0_0 a0_1 (wrap64 ((wrap64 (x5_1 - a1)) - 1)) t330 _ A6.out).mono ?_
     rintro e w11 ⟨rfl,hb⟩
     refine ⟨_,rfl,?_⟩
     replace BK328:=aM (blk_below (g:=gb328) (o:=.cells #[.string a0_0,.string a0_1] 25 (0,0)) (by (with_reducible repeat (first|apply yN|apply yD|apply yA));exact BK328.out) hb)
     replace HB:=aM (below_step (by repeat (first|(with_reducible first|exact HB.out|apply zA|apply zN|apply zD|refine zS ?_ GE328.out)|exact HB.out)) hb)
     (try clear hb)
     refine hK.out _ _ ⟨(blk_cell BK328.out 0).trans rfl,(blk_cell BK328.out 1).trans rfl⟩ (fun hHeld=>?_)
     clear hK K
     refine norm_ (a':=?_) ?_ ?_
     rotate_left
     ·show Act.put _ (some 30) _ = _
      simp only [Act.put,sI,sZ,sS,i64_w,i32_w]
      rfl
     refine pure_ (i:=10) (N:=some 31) (v:=?_) (a':=?_) #[tT,tT,tT,tT,tT,tT,tT,tT,tT,tT,tT] rfl rfl (any_of HT_.out (by kernel_rfl)) (fun _ _ _ h=>h) (Or.inl ⟨by rfl,?_⟩) ?_ ?_
     rotate_left
     ·intro w'
      go_simp
      with_reducible rfl
     rotate_left
     ·simp only [Act.put,sI,sZ,sS,i64_w,i32_w]
      rfl
     refine done_ (done_of HT_.out (by kernel_rfl)) ?_
     try go_wp2
     go_roundg k1
     case measure=>have:=HK1.out;omega
     case rel=>exact ⟨(wrap64 (x5_1 + 1)),(by first|rfl|(simp;done)|(simp [*];done)),H',⟨by have:=HK1.out;omega⟩,⟨by (with_reducible repeat (first|apply yN|apply yD|apply yA));exact BK328.out⟩,⟨by repeat (first|(with_reducible first|exact HB.out|apply zA|apply zN|apply zD|refine zS ?_ GE328.out)|exact HB.out)⟩⟩
    ·rw [if_neg c7] at H
     have c7b0:(t329 == t330) = false:=beq_eq_false_iff_ne.mpr c7
     have c7b1:(t329 != t330) = true:=bne_iff_ne.mpr c7
     obtain rfl:=Option.some.inj H
     have hcz12_0:wr.cell? ⟨gb328,0,none⟩ = some (.string a0_0):=(blk_cell BK328.out 0).trans rfl
     have hcz12_1:wr.cell? ⟨gb328,1,none⟩ = some (.string a0_1):=(blk_cell BK328.out 1).trans rfl
     have hfz12_0:=blk_frozen BK328.out 0
     have hfz12_1:=blk_frozen BK328.out 1
     try go_wp2
     replace BK328:=aM (yD BK328.out)
     replace HB:=aM (zD HB.out)
     refine start_ (n:=11) (S:=fun w'=>w'.cell? ⟨gb328,0,none⟩ = some (.string a0_0) ∧ w'.cell? ⟨gb328,1,none⟩ = some (.string a0_1)) (ds:=[]) #[fF,fF,fF,fF,fF,fF,fF,fF,fF,fF,fF] (by kernel_rfl) rfl rfl ⟨(blk_cell BK328.out 0).trans rfl,(blk_cell BK328.out 1).trans rfl⟩ (fun hHeld=>?_);refine with_tabW spec_l02Rho.tab4 spec_l02Rho.bits4 (fun HT_ HW_=>?_)
     generalize wr.drew = w13 at BK328 HB hHeld ⊢
     refine pure_ (i:=1) (N:=some 22) (v:=?_) (a':=?_) #[fF,tT,fF,fF,fF,fF,fF,fF,fF,fF,fF] rfl rfl (any_of HT_.out (by kernel_rfl)) (fun _ _ _ h=>h) (Or.inl ⟨by rfl,?_⟩) ?_ ?_
     rotate_left
     ·intro w'
      go_simp
      with_reducible rfl
     rotate_left
     ·simp only [Act.put,sI,sZ,sS,i64_w,i32_w]
      rfl
     refine pure_ (i:=2) (N:=some 23) (v:=?_) (a':=?_) #[fF,tT,tT,fF,fF,fF,fF,fF,fF,fF,fF] rfl rfl (any_of HT_.out (by kernel_rfl)) (fun _ _ _ h=>h) (Or.inl ⟨by rfl,?_⟩) ?_ ?_
     rotate_left
     ·intro w'
      go_simp
      with_reducible rfl
     rotate_left
     ·simp only [Act.put,sI,sZ,sS,i64_w,i32_w]
      rfl
     refine pure_ (i:=5) (N:=some 26) (v:=?_) (a':=?_) #[fF,tT,tT,fF,fF,tT,fF,fF,fF,fF,fF] rfl rfl (any_of HT_.out (by kernel_rfl)) (fun _ _ _ h=>h) (Or.inl ⟨by rfl,?_⟩) ?_ ?_
     rotate_left
     ·intro w'
      go_simp
      with_reducible rfl
     rotate_left
     ·simp only [Act.put,sI,sZ,sS,i64_w,i32_w]
      rfl
     refine pure_ (i:=6) (N:=some 27) (v:=?_) (a':=?_) #[fF,tT,tT,fF,fF,tT,tT,fF,fF,fF,fF] rfl rfl (any_of HT_.out (by kernel_rfl)) (fun _ _ _ h=>h) (Or.inl ⟨by rfl,?_⟩) ?_ ?_
     rotate_left
     ·intro w'
      go_simp
      with_reducible rfl
     rotate_left
     ·simp only [Act.put,sI,sZ,sS,i64_w,i32_w]
      rfl
     refine pure_ (i:=7) (N:=some 28) (v:=?_) (a':=?_) #[fF,tT,tT,fF,fF,tT,tT,tT,fF,fF,fF] rfl rfl (any_of HT_.out (by kernel_rfl)) (fun _ _ _ h=>h) (Or.inl ⟨by rfl,?_⟩) ?_ ?_
     rotate_left
     ·intro w'
      go_simp
      with_reducible rfl
     rotate_left
     ·simp only [Act.put,sI,sZ,sS,i64_w,i32_w]
      rfl
     refine pure_ (i:=8) (N:=some 29) (v:=?_) (a':=?_) #[fF,tT,tT,fF,fF,tT,tT,tT,tT,fF,fF] rfl rfl (any_of HT_.out (by kernel_rfl)) (fun _ _ _ h=>h) (Or.inl ⟨by rfl,?_⟩) ?_ ?_
     rotate_left
     ·intro w'
      go_simp
      with_reducible rfl
     rotate_left
     ·simp only [Act.put,sI,sZ,sS,i64_w,i32_w]
      rfl
     refine take_ (i:=0) (N:=some 21) (v:=?_) (a':=?_) #[tT,tT,tT,fF,fF,tT,tT,tT,tT,fF,fF] rfl rfl (take_ofW HT_.out HW_.out (by kernel_rfl)) (fun _ _ _ h=>h) (Or.inl ⟨by rfl,?_⟩) hHeld ?_ ?_
     rotate_left
     ·rintro w' ⟨s0,s1⟩
      go_simp
      with_reducible rfl
     rotate_left
     ·simp only [Act.put,sI,sZ,sS,i64_w,i32_w]
      rfl
     refine take_ (i:=4) (N:=some 25) (v:=?_) (a':=?_) #[tT,tT,tT,fF,tT,tT,tT,tT,tT,fF,fF] rfl rfl (take_ofW HT_.out HW_.out (by kernel_rfl)) (fun _ _ _ h=>h) (Or.inl ⟨by rfl,?_⟩) hHeld ?_ ?_
     rotate_left
     ·rintro w' ⟨s0,s1⟩
      go_simp
      with_reducible rfl
     rotate_left
     ·simp only [Act.put,sI,sZ,sS,i64_w,i32_w]
      rfl
     refine one_ (i:=3) (N:=some 24) #[tT,tT,tT,tT,tT,tT,tT,tT,tT,fF,fF] rfl rfl (one_of HT_.out (by kernel_rfl)) (by decide) (fun K hK=>?_)
     refine goes_ Try.func40 (by kernel_rfl) rfl #[.agg #[.string a0_0,.string a0_1],.int .i64 (wrap64 (x5_1 - 1))] (by rfl) rfl rfl (by (try simp only [sM,sC,sN]);first|done|rfl|(simp only [List.length_drop,List.length_take];rfl)) ?_
     with_reducible refine (spec_l01At.calls a0_0 a0_1 (wrap64 (x5_1 - 1)) t329 _ A5.out).mono ?_
     rintro e w14 ⟨rfl,hb⟩
     refine ⟨_,rfl,?_⟩
     replace BK328:=aM (blk_below (g:=gb328) (o:=.cells #[.string a0_0,.string a0_1] 25 (0,0)) (by (with_reducible repeat (first|apply yN|apply yD|apply yA));exact BK328.out) hb)
     replace HB:=aM (below_step (by repeat (first|(with_reducible first|exact HB.out|apply zA|apply zN|apply zD|refine zS ?_ GE328.out)|exact HB.out)) hb)
     (try clear hb)
     refine hK.out _ _ ⟨(blk_cell BK328.out 0).trans rfl,(blk_cell BK328.out 1).trans rfl⟩ (fun hHeld=>?_)
     clear hK K
     refine norm_ (a':=?_) ?_ ?_
     rotate_left
     ·show Act.put _ (some 24) _ = _
      simp only [Act.put,sI,sZ,sS,i64_w,i32_w]
      rfl
     refine one_ (i:=9) (N:=some 30) #[tT,tT,tT,tT,tT,tT,tT,tT,tT,tT,fF] rfl rfl (one_of HT_.out (by kernel_rfl)) (by decide) (fun K hK=>?_)
     refine goes_ Try.func40 (by kernel_rfl) rfl #[.agg #[.string a0_0,.string a0_1],.int .i64 (wrap64 ((wrap64 (x5_1 - a1)) - 1))] (by rfl) rfl rfl (by (try simp only [sM,sC,sN]);first|done|rfl|(simp only [List.length_drop,List.length_take];rfl)) ?_
     with_reducible refine (spec_l01At.calls a0_0 a0_1 (wrap64 ((wrap64 (x5_1 - a1)) - 1)) t330 _ A6.out).mono ?_
     rintro e w15 ⟨rfl,hb⟩
     refine ⟨_,rfl,?_⟩
     replace BK328:=aM (blk_below (g:=gb328) (o:=.cells #[.string a0_0,.string a0_1] 25 (0,0)) (by (with_reducible repeat (first|apply yN|apply yD|apply yA));exact BK328.out) hb)
     replace HB:=aM (below_step (by repeat (first|(with_reducible first|exact HB.out|apply zA|apply zN|apply zD|refine zS ?_ GE328.out)|exact HB.out)) hb)
     (try clear hb)
     refine hK.out _ _ ⟨(blk_cell BK328.out 0).trans rfl,(blk_cell BK328.out 1).trans rfl⟩ (fun hHeld=>?_)
     clear hK K
     refine norm_ (a':=?_) ?_ ?_
     rotate_left
     ·show Act.put _ (some 30) _ = _
      simp only [Act.put,sI,sZ,sS,i64_w,i32_w]
      rfl
     refine pure_ (i:=10) (N:=some 31) (v:=?_) (a':=?_) #[tT,tT,tT,tT,tT,tT,tT,tT,tT,tT,tT] rfl rfl (any_of HT_.out (by kernel_rfl)) (fun _ _ _ h=>h) (Or.inl ⟨by rfl,?_⟩) ?_ ?_
     rotate_left
     ·intro w'
      go_simp
      with_reducible rfl
     rotate_left
     ·simp only [Act.put,sI,sZ,sS,i64_w,i32_w]
      rfl
     refine done_ (done_of HT_.out (by kernel_rfl)) ?_
     try go_wp2
     go_ret
     exact ⟨by first|rfl|(simp [errW_none,errW_some] <;> rfl)|(simp [*,errW_none,errW_some] <;> rfl),by repeat (first|(with_reducible first|exact HB.out|apply zA|apply zN|apply zD|refine zS ?_ GE328.out)|exact HB.out)⟩
   ·rw [if_neg c4] at H
    have c4b0:decide (x5_1 ≤ (wrap64 (a1 + (wrap64 ((a0_0.size:Int) + (a0_1.size:Int)))))) = false:=decide_eq_false c4
    clear c4
    obtain rfl:=Option.some.inj H
    have hcz16_0:wr.cell? ⟨gb328,0,none⟩ = some (.string a0_0):=(blk_cell BK328.out 0).trans rfl
    have hcz16_1:wr.cell? ⟨gb328,1,none⟩ = some (.string a0_1):=(blk_cell BK328.out 1).trans rfl
    have hfz16_0:=blk_frozen BK328.out 0
    have hfz16_1:=blk_frozen BK328.out 1
    go_wp2
    go_ret
    exact ⟨by first|rfl|(simp [errW_none,errW_some] <;> rfl)|(simp [*,errW_none,errW_some] <;> rfl),by repeat (first|(with_reducible first|exact HB.out|apply zA|apply zN|apply zD|refine zS ?_ GE328.out)|exact HB.out)⟩
def spec_RhoOf.f (k:Nat) (a0_0:ByteArray) (a0_1:ByteArray) (a1:Int):Option (Int × Int):=(spec_l01Seq.f k a0_0 a0_1).bind fun t332=>(if t332 = true then ((spec_l01In.f a1 1 1000).bind fun t333=>(if t333 = true then ((spec_l02Rho.f k a0_0 a0_1 a1).bind fun t334=>(if t334 = 0 then (some (0,4)) else (some (t334,0)))) else (some (0,2)))) else (some (0,1)))
theorem spec_RhoOf.mono:∀ a0 a1 a2 k,LeO (spec_RhoOf.f k a0 a1 a2) (spec_RhoOf.f (k + 1) a0 a1 a2):=by
 intro a0 a1 a2 k
 unfold spec_RhoOf.f
 repeat' first
   | (with_reducible exact spec_l01Seq.mono _ _ _)
   | (with_reducible exact spec_l02Rho.mono _ _ _ _)
   | (with_reducible exact LeO.refl _)
   | (with_reducible exact LeO.none _)
   | (with_reducible refine LeO.ite ?_ ?_)
   | (with_reducible refine LeO.bind ?_ (fun _=>?_))
   | exact spec_l01Seq.mono _ _ _
   | exact spec_l02Rho.mono _ _ _ _
   | exact LeO.none _
   | refine LeO.ite ?_ ?_
   | refine LeO.bind ?_ (fun _=>?_)
set_option maxHeartbeats 8000000 in
set_option maxRecDepth 100000 in
theorem spec_RhoOf.calls (k:Nat) (a0_0:ByteArray) (a0_1:ByteArray) (a1:Int) (r1:Int) (r2:Int) (w:World) (h:spec_RhoOf.f k a0_0 a0_1 a1 = some (r1,r2)) :
  Calls Try.prog 7 #[.agg #[.string a0_0,.string a0_1],.int .i64 a1] w fun e w'=>e = .returned (.tuple #[.int .i64 r1,.int .i64 r2]) ∧ Below w.heap.size w w':=by
 have hu25:=Try.underlying25
 have HB:=aM (Below.refl w.heap.size w)
 have H:((spec_l01Seq.f k a0_0 a0_1).bind fun t332=>(if t332 = true then ((spec_l01In.f a1 1 1000).bind fun t333=>(if t333 = true then ((spec_l02Rho.f k a0_0 a0_1 a1).bind fun t334=>(if t334 = 0 then (some (0,4)) else (some (t334,0)))) else (some (0,2)))) else (some (0,1)))) = some (r1,r2):=h
 clear h
 replace H:=Option.bind_eq_some_iff.mp H
 obtain ⟨t332,A30,H⟩:=H
 replace H:(if t332 = true then ((spec_l01In.f a1 1 1000).bind fun t333=>(if t333 = true then ((spec_l02Rho.f k a0_0 a0_1 a1).bind fun t334=>(if t334 = 0 then (some (0,4)) else (some (t334,0)))) else (some (0,2)))) else (some (0,1))) = some (r1,r2):=H
 have A3:=aM A30
 clear A30
 by_cases c4:t332 = true
 ·subst c4
  have H1:((spec_l01In.f a1 1 1000).bind fun t333=>(if t333 = true then ((spec_l02Rho.f k a0_0 a0_1 a1).bind fun t334=>(if t334 = 0 then (some (0,4)) else (some (t334,0)))) else (some (0,2)))) = some (r1,r2):=by rw [if_pos rfl] at H;exact H
  clear H
  have H:=H1
  clear H1
  replace H:=Option.bind_eq_some_iff.mp H
  obtain ⟨t333,A50,H⟩:=H
  replace H:(if t333 = true then ((spec_l02Rho.f k a0_0 a0_1 a1).bind fun t334=>(if t334 = 0 then (some (0,4)) else (some (t334,0)))) else (some (0,2))) = some (r1,r2):=H
  have A5:=aM A50
  clear A50
  by_cases c6:t333 = true
  ·subst c6
   have H1:((spec_l02Rho.f k a0_0 a0_1 a1).bind fun t334=>(if t334 = 0 then (some (0,4)) else (some (t334,0)))) = some (r1,r2):=by rw [if_pos rfl] at H;exact H
   clear H
   have H:=H1
   clear H1
   replace H:=Option.bind_eq_some_iff.mp H
   obtain ⟨t334,A70,H⟩:=H
   replace H:(if t334 = 0 then (some (0,4)) else (some (t334,0))) = some (r1,r2):=H
   have A7:=aM A70
   clear A70
   by_cases c8:t334 = 0
   ·rw [if_pos c8] at H
    have c8b0:(t334 == 0) = true:=beq_iff_eq.mpr c8
    have c8b1:(t334 != 0) = false:=bne_eq_false_iff_eq.mpr c8
    clear c8
    simp only [Option.some.injEq,Prod.mk.injEq] at H
    obtain ⟨rfl,rfl⟩:=H
    go_enter Try.func7,Try.ntmps7
    go_wp2_with (first|((with_reducible refine gate_dst (N:=2) rfl ?_);refine box_event ?hg (N:=2) ?hd (cs:=#[.string a0_0,.string a0_1]) (t:=25) ?hr ?_;(case hd=>rfl);(case hg=>rfl);(case hr=>first|(go_simp;done)|(go_simp;rfl));intro gb331 hg w9 hbox hb;have n0_:=aM (below_step (by repeat (first|(with_reducible first|exact HB.out|apply zA|apply zN|apply zD)|exact HB.out)) hb);have n1_:=aM (hbox);have n2_:=aM ((by rw [hg];exact (below_size (by repeat (first|(with_reducible first|exact HB.out|apply zA|apply zN|apply zD)|exact HB.out))):w.heap.size ≤ gb331));have n3_:=aM ((by rw [hg];exact (below_size (by repeat (first|(with_reducible first|exact HB.out|apply zA|apply zN|apply zD)|exact HB.out))):w.heap.size ≤ gb331));clear HB;have HB:=n0_;have BK331:=n1_;have GW331:=n2_;have GE331:=n3_;clear n0_ n1_ n2_ n3_;clear hb hbox hg;have hcz10_0:w9.cell? ⟨gb331,0,none⟩ = some (.string a0_0):=(blk_cell BK331.out 0).trans rfl;have hcz10_1:w9.cell? ⟨gb331,1,none⟩ = some (.string a0_1):=(blk_cell BK331.out 1).trans rfl;have hfz10_0:=blk_frozen BK331.out 0;have hfz10_1:=blk_frozen BK331.out 1)|((with_reducible refine gate_callee (f:=22) rfl ?_);refine goesL_ (some 9) rfl rfl Try.func22 (by kernel_rfl) rfl #[.agg #[.string a0_0,.string a0_1]] rfl (by (try simp only [sM,sC,sN]);first|done|rfl|(simp only [List.length_drop,List.length_take];rfl)) ?_;(with_reducible refine (spec_l01Seq.calls k a0_0 a0_1 true _ A3.out).mono ?_);rintro e w11 ⟨rfl,hb⟩;refine ⟨_,rfl,?_⟩;replace BK331:=aM (blk_below (g:=gb331) (o:=.cells #[.string a0_0,.string a0_1] 25 (0,0)) (by (with_reducible repeat (first|apply yN|apply yD|apply yA));exact BK331.out) hb);replace HB:=aM (below_step (by repeat (first|(with_reducible first|exact HB.out|apply zA|apply zN|apply zD|refine zS ?_ GE331.out)|exact HB.out)) hb);(try clear hb);(try clear hb2);(try clear hk);(try clear hi))|((with_reducible refine gate_callee (f:=23) rfl ?_);refine goesL_ (some 13) rfl rfl Try.func23 (by kernel_rfl) rfl #[.int .i64 a1,.int .i64 1,.int .i64 1000] rfl (by (try simp only [sM,sC,sN]);first|done|rfl|(simp only [List.length_drop,List.length_take];rfl)) ?_;(with_reducible refine (spec_l01In.calls a1 1 1000 true _ A5.out).mono ?_);rintro e w' ⟨rfl,⟨nd,rfl⟩⟩;refine ⟨_,rfl,?_⟩;have hcz12_0:w11.cell? ⟨gb331,0,none⟩ = some (.string a0_0):=(blk_cell BK331.out 0).trans rfl;have hcz12_1:w11.cell? ⟨gb331,1,none⟩ = some (.string a0_1):=(blk_cell BK331.out 1).trans rfl;have hfz12_0:=blk_frozen BK331.out 0;have hfz12_1:=blk_frozen BK331.out 1)|((with_reducible refine gate_callee (f:=24) rfl ?_);refine goesL_ (some 17) rfl rfl Try.func24 (by kernel_rfl) rfl #[.agg #[.string a0_0,.string a0_1],.int .i64 a1] rfl (by (try simp only [sM,sC,sN]);first|done|rfl|(simp only [List.length_drop,List.length_take];rfl)) ?_;(with_reducible refine (spec_l02Rho.calls k a0_0 a0_1 a1 t334 _ A7.out).mono ?_);rintro e w13 ⟨rfl,hb⟩;refine ⟨_,rfl,?_⟩;replace BK331:=aM (blk_below (g:=gb331) (o:=.cells #[.string a0_0,.string a0_1] 25 (0,0)) (by (with_reducible repeat (first|apply yN|apply yD|apply yA));exact BK331.out) hb);replace HB:=aM (below_step (by repeat (first|(with_reducible first|exact HB.out|apply zA|apply zN|apply zD|refine zS ?_ GE331.out)|exact HB.out)) hb);(try clear hb);(try clear hb2);(try clear hk);(try clear hi)))
    go_ret2
    exact ⟨by first|rfl|(simp [errW_none,errW_some] <;> rfl)|(simp [*,errW_none,errW_some] <;> rfl),by repeat (first|(with_reducible first|exact HB.out|apply zA|apply zN|apply zD|refine zS ?_ GE331.out)|exact HB.out)⟩
   ·rw [if_neg c8] at H
    have c8b0:(t334 == 0) = false:=beq_eq_false_iff_ne.mpr c8
    have c8b1:(t334 != 0) = true:=bne_iff_ne.mpr c8
    simp only [Option.some.injEq,Prod.mk.injEq] at H
    obtain ⟨rfl,rfl⟩:=H
    go_enter Try.func7,Try.ntmps7
    go_wp2_with (first|((with_reducible refine gate_dst (N:=2) rfl ?_);refine box_event ?hg (N:=2) ?hd (cs:=#[.string a0_0,.string a0_1]) (t:=25) ?hr ?_;(case hd=>rfl);(case hg=>rfl);(case hr=>first|(go_simp;done)|(go_simp;rfl));intro gb331 hg w14 hbox hb;have n0_:=aM (below_step (by repeat (first|(with_reducible first|exact HB.out|apply zA|apply zN|apply zD)|exact HB.out)) hb);have n1_:=aM (hbox);have n2_:=aM ((by rw [hg];exact (below_size (by repeat (first|(with_reducible first|exact HB.out|apply zA|apply zN|apply zD)|exact HB.out))):w.heap.size ≤ gb331));have n3_:=aM ((by rw [hg];exact (below_size (by repeat (first|(with_reducible first|exact HB.out|apply zA|apply zN|apply zD)|exact HB.out))):w.heap.size ≤ gb331));clear HB;have HB:=n0_;have BK331:=n1_;have GW331:=n2_;have GE331:=n3_;clear n0_ n1_ n2_ n3_;clear hb hbox hg;have hcz15_0:w14.cell? ⟨gb331,0,none⟩ = some (.string a0_0):=(blk_cell BK331.out 0).trans rfl;have hcz15_1:w14.cell? ⟨gb331,1,none⟩ = some (.string a0_1):=(blk_cell BK331.out 1).trans rfl;have hfz15_0:=blk_frozen BK331.out 0;have hfz15_1:=blk_frozen BK331.out 1)|((with_reducible refine gate_callee (f:=22) rfl ?_);refine goesL_ (some 9) rfl rfl Try.func22 (by kernel_rfl) rfl #[.agg #[.string a0_0,.string a0_1]] rfl (by (try simp only [sM,sC,sN]);first|done|rfl|(simp only [List.length_drop,List.length_take];rfl)) ?_;(with_reducible refine (spec_l01Seq.calls k a0_0 a0_1 true _ A3.out).mono ?_);rintro e w16 ⟨rfl,hb⟩;refine ⟨_,rfl,?_⟩;replace BK331:=aM (blk_below (g:=gb331) (o:=.cells #[.string a0_0,.string a0_1] 25 (0,0)) (by (with_reducible repeat (first|apply yN|apply yD|apply yA));exact BK331.out) hb);replace HB:=aM (below_step (by repeat (first|(with_reducible first|exact HB.out|apply zA|apply zN|apply zD|refine zS ?_ GE331.out)|exact HB.out)) hb);(try clear hb);(try clear hb2);(try clear hk);(try clear hi))|((with_reducible refine gate_callee (f:=23) rfl ?_);refine goesL_ (some 13) rfl rfl Try.func23 (by kernel_rfl) rfl #[.int .i64 a1,.int .i64 1,.int .i64 1000] rfl (by (try simp only [sM,sC,sN]);first|done|rfl|(simp only [List.length_drop,List.length_take];rfl)) ?_;(with_reducible refine (spec_l01In.calls a1 1 1000 true _ A5.out).mono ?_);rintro e w' ⟨rfl,⟨nd,rfl⟩⟩;refine ⟨_,rfl,?_⟩;have hcz17_0:w16.cell? ⟨gb331,0,none⟩ = some (.string a0_0):=(blk_cell BK331.out 0).trans rfl;have hcz17_1:w16.cell? ⟨gb331,1,none⟩ = some (.string a0_1):=(blk_cell BK331.out 1).trans rfl;have hfz17_0:=blk_frozen BK331.out 0;have hfz17_1:=blk_frozen BK331.out 1)|((with_reducible refine gate_callee (f:=24) rfl ?_);refine goesL_ (some 17) rfl rfl Try.func24 (by kernel_rfl) rfl #[.agg #[.string a0_0,.string a0_1],.int .i64 a1] rfl (by (try simp only [sM,sC,sN]);first|done|rfl|(simp only [List.length_drop,List.length_take];rfl)) ?_;(with_reducible refine (spec_l02Rho.calls k a0_0 a0_1 a1 t334 _ A7.out).mono ?_);rintro e w18 ⟨rfl,hb⟩;refine ⟨_,rfl,?_⟩;replace BK331:=aM (blk_below (g:=gb331) (o:=.cells #[.string a0_0,.string a0_1] 25 (0,0)) (by (with_reducible repeat (first|apply yN|apply yD|apply yA));exact BK331.out) hb);replace HB:=aM (below_step (by repeat (first|(with_reducible first|exact HB.out|apply zA|apply zN|apply zD|refine zS ?_ GE331.out)|exact HB.out)) hb);(try clear hb);(try clear hb2);(try clear hk);(try clear hi)))
    go_ret2
    exact ⟨by first|rfl|(simp [errW_none,errW_some] <;> rfl)|(simp [*,errW_none,errW_some] <;> rfl),by repeat (first|(with_reducible first|exact HB.out|apply zA|apply zN|apply zD|refine zS ?_ GE331.out)|exact HB.out)⟩
  ·replace c6:=Bool.eq_false_iff.mpr c6
   subst c6
   have H1:(some (0,2)) = some (r1,r2):=by rw [if_neg (show ¬ (false = true) by decide)] at H;exact H
   clear H
   have H:=H1
   clear H1
   simp only [Option.some.injEq,Prod.mk.injEq] at H
   obtain ⟨rfl,rfl⟩:=H
   go_enter Try.func7,Try.ntmps7
   go_wp2_with (first|((with_reducible refine gate_dst (N:=2) rfl ?_);refine box_event ?hg (N:=2) ?hd (cs:=#[.string a0_0,.string a0_1]) (t:=25) ?hr ?_;(case hd=>rfl);(case hg=>rfl);(case hr=>first|(go_simp;done)|(go_simp;rfl));intro gb331 hg w19 hbox hb;have n0_:=aM (below_step (by repeat (first|(with_reducible first|exact HB.out|apply zA|apply zN|apply zD)|exact HB.out)) hb);have n1_:=aM (hbox);have n2_:=aM ((by rw [hg];exact (below_size (by repeat (first|(with_reducible first|exact HB.out|apply zA|apply zN|apply zD)|exact HB.out))):w.heap.size ≤ gb331));have n3_:=aM ((by rw [hg];exact (below_size (by repeat (first|(with_reducible first|exact HB.out|apply zA|apply zN|apply zD)|exact HB.out))):w.heap.size ≤ gb331));clear HB;have HB:=n0_;have BK331:=n1_;have GW331:=n2_;have GE331:=n3_;clear n0_ n1_ n2_ n3_;clear hb hbox hg;have hcz20_0:w19.cell? ⟨gb331,0,none⟩ = some (.string a0_0):=(blk_cell BK331.out 0).trans rfl;have hcz20_1:w19.cell? ⟨gb331,1,none⟩ = some (.string a0_1):=(blk_cell BK331.out 1).trans rfl;have hfz20_0:=blk_frozen BK331.out 0;have hfz20_1:=blk_frozen BK331.out 1)|((with_reducible refine gate_callee (f:=22) rfl ?_);refine goesL_ (some 9) rfl rfl Try.func22 (by kernel_rfl) rfl #[.agg #[.string a0_0,.string a0_1]] rfl (by (try simp only [sM,sC,sN]);first|done|rfl|(simp only [List.length_drop,List.length_take];rfl)) ?_;(with_reducible refine (spec_l01Seq.calls k a0_0 a0_1 true _ A3.out).mono ?_);rintro e w21 ⟨rfl,hb⟩;refine ⟨_,rfl,?_⟩;replace BK331:=aM (blk_below (g:=gb331) (o:=.cells #[.string a0_0,.string a0_1] 25 (0,0)) (by (with_reducible repeat (first|apply yN|apply yD|apply yA));exact BK331.out) hb);replace HB:=aM (below_step (by repeat (first|(with_reducible first|exact HB.out|apply zA|apply zN|apply zD|refine zS ?_ GE331.out)|exact HB.out)) hb);(try clear hb);(try clear hb2);(try clear hk);(try clear hi))|((with_reducible refine gate_callee (f:=23) rfl ?_);refine goesL_ (some 13) rfl rfl Try.func23 (by kernel_rfl) rfl #[.int .i64 a1,.int .i64 1,.int .i64 1000] rfl (by (try simp only [sM,sC,sN]);first|done|rfl|(simp only [List.length_drop,List.length_take];rfl)) ?_;(with_reducible refine (spec_l01In.calls a1 1 1000 false _ A5.out).mono ?_);rintro e w' ⟨rfl,⟨nd,rfl⟩⟩;refine ⟨_,rfl,?_⟩))
   go_ret2
   exact ⟨by first|rfl|(simp [errW_none,errW_some] <;> rfl)|(simp [*,errW_none,errW_some] <;> rfl),by repeat (first|(with_reducible first|exact HB.out|apply zA|apply zN|apply zD|refine zS ?_ GE331.out)|exact HB.out)⟩
 ·replace c4:=Bool.eq_false_iff.mpr c4
  subst c4
  have H1:(some (0,1)) = some (r1,r2):=by rw [if_neg (show ¬ (false = true) by decide)] at H;exact H
  clear H
  have H:=H1
  clear H1
  simp only [Option.some.injEq,Prod.mk.injEq] at H
  obtain ⟨rfl,rfl⟩:=H
  go_enter Try.func7,Try.ntmps7
  go_wp2_with (first|((with_reducible refine gate_dst (N:=2) rfl ?_);refine box_event ?hg (N:=2) ?hd (cs:=#[.string a0_0,.string a0_1]) (t:=25) ?hr ?_;(case hd=>rfl);(case hg=>rfl);(case hr=>first|(go_simp;done)|(go_simp;rfl));intro gb331 hg w22 hbox hb;have n0_:=aM (below_step (by repeat (first|(with_reducible first|exact HB.out|apply zA|apply zN|apply zD)|exact HB.out)) hb);have n1_:=aM (hbox);have n2_:=aM ((by rw [hg];exact (below_size (by repeat (first|(with_reducible first|exact HB.out|apply zA|apply zN|apply zD)|exact HB.out))):w.heap.size ≤ gb331));have n3_:=aM ((by rw [hg];exact (below_size (by repeat (first|(with_reducible first|exact HB.out|apply zA|apply zN|apply zD)|exact HB.out))):w.heap.size ≤ gb331));clear HB;have HB:=n0_;have BK331:=n1_;have GW331:=n2_;have GE331:=n3_;clear n0_ n1_ n2_ n3_;clear hb hbox hg;have hcz23_0:w22.cell? ⟨gb331,0,none⟩ = some (.string a0_0):=(blk_cell BK331.out 0).trans rfl;have hcz23_1:w22.cell? ⟨gb331,1,none⟩ = some (.string a0_1):=(blk_cell BK331.out 1).trans rfl;have hfz23_0:=blk_frozen BK331.out 0;have hfz23_1:=blk_frozen BK331.out 1)|((with_reducible refine gate_callee (f:=22) rfl ?_);refine goesL_ (some 9) rfl rfl Try.func22 (by kernel_rfl) rfl #[.agg #[.string a0_0,.string a0_1]] rfl (by (try simp only [sM,sC,sN]);first|done|rfl|(simp only [List.length_drop,List.length_take];rfl)) ?_;(with_reducible refine (spec_l01Seq.calls k a0_0 a0_1 false _ A3.out).mono ?_);rintro e w24 ⟨rfl,hb⟩;refine ⟨_,rfl,?_⟩;replace BK331:=aM (blk_below (g:=gb331) (o:=.cells #[.string a0_0,.string a0_1] 25 (0,0)) (by (with_reducible repeat (first|apply yN|apply yD|apply yA));exact BK331.out) hb);replace HB:=aM (below_step (by repeat (first|(with_reducible first|exact HB.out|apply zA|apply zN|apply zD|refine zS ?_ GE331.out)|exact HB.out)) hb);(try clear hb);(try clear hb2);(try clear hk);(try clear hi)))
  go_ret2
  exact ⟨by first|rfl|(simp [errW_none,errW_some] <;> rfl)|(simp [*,errW_none,errW_some] <;> rfl),by repeat (first|(with_reducible first|exact HB.out|apply zA|apply zN|apply zD|refine zS ?_ GE331.out)|exact HB.out)⟩
def spec_DrawInternalAddress.f (k:Nat) (l0:List Int):Option (ByteArray × ByteArray):=(spec_l01From.f k l0).bind fun bt336=>((spec_l02Draw.f k bt336.1 bt336.2.1 bt336.2.2).bind fun bt340=>(some (bt340.1,bt340.2.1)))
theorem spec_DrawInternalAddress.mono:∀ a0 k,LeO (spec_DrawInternalAddress.f k a0) (spec_DrawInternalAddress.f (k + 1) a0):=by
 intro a0 k
 unfold spec_DrawInternalAddress.f
 repeat' first
   | (with_reducible exact spec_l01From.mono _ _)
   | (with_reducible exact spec_l02Draw.mono _ _ _ _)
   | (with_reducible exact LeO.refl _)
   | (with_reducible exact LeO.none _)
   | (with_reducible refine LeO.ite ?_ ?_)
   | (with_reducible refine LeO.bind ?_ (fun _=>?_))
   | exact spec_l01From.mono _ _
   | exact spec_l02Draw.mono _ _ _ _
   | exact LeO.none _
   | refine LeO.ite ?_ ?_
   | refine LeO.bind ?_ (fun _=>?_)
set_option maxHeartbeats 8000000 in
set_option maxRecDepth 100000 in
theorem spec_DrawInternalAddress.calls (k:Nat) (A0:Option Addr) (c0:Nat) (l0:List Int) (r1:ByteArray) (r2:ByteArray) (w:World) (hr0:Kd.C (Kd.int .u8) w A0 l0.length l0) (hc0:l0.length ≤ c0) (h:spec_DrawInternalAddress.f k l0 = some (r1,r2)) :
  Calls Try.prog 8 #[.slice A0 l0.length c0] w fun e w'=>e = .returned (.agg #[.string r1,.string r2]) ∧ Below w.heap.size w w':=by
 have hu25:=Try.underlying25
 have HR0:=aM hr0
 have HC0:=aM hc0
 clear hr0 hc0
 have HB:=aM (Below.refl w.heap.size w)
 have H:((spec_l01From.f k l0).bind fun bt336=>((spec_l02Draw.f k bt336.1 bt336.2.1 bt336.2.2).bind fun bt340=>(some (bt340.1,bt340.2.1)))) = some (r1,r2):=h
 clear h
 replace H:=Option.bind_eq_some_iff.mp H
 obtain ⟨⟨t336,t337,t338⟩,A20,H⟩:=H
 replace H:((spec_l02Draw.f k t336 t337 t338).bind fun bt340=>(some (bt340.1,bt340.2.1))) = some (r1,r2):=H
 have A2:=aM A20
 clear A20
 replace H:=Option.bind_eq_some_iff.mp H
 obtain ⟨⟨t340,t341,t342,t343⟩,A30,H⟩:=H
 replace H:(some (t340,t341)) = some (r1,r2):=H
 have A3:=aM A30
 clear A30
 simp only [Option.some.injEq,Prod.mk.injEq] at H
 obtain ⟨rfl,rfl⟩:=H
 go_enter Try.func8,Try.ntmps8
 go_wp2_with (first|((with_reducible refine gate_dst (N:=2) rfl ?_);refine box_event ?hg (N:=2) ?hd (cs:=#[.string ⟨#[]⟩,.string ⟨#[]⟩]) (t:=25) ?hr ?_;(case hd=>rfl);(case hg=>rfl);(case hr=>first|(go_simp;done)|(go_simp;rfl));intro gb335 hg w4 hbox hb;have n0_:=aM (below_step (by repeat (first|(with_reducible first|exact HB.out|apply zA|apply zN|apply zD)|exact HB.out)) hb);have n1_:=aM (hbox);have n2_:=aM ((by rw [hg];exact (below_size (by repeat (first|(with_reducible first|exact HB.out|apply zA|apply zN|apply zD)|exact HB.out))):w.heap.size ≤ gb335));have n3_:=aM ((by rw [hg];exact (below_size (by repeat (first|(with_reducible first|exact HB.out|apply zA|apply zN|apply zD)|exact HB.out))):w.heap.size ≤ gb335));clear HB;have HB:=n0_;have BK335:=n1_;have GW335:=n2_;have GE335:=n3_;clear n0_ n1_ n2_ n3_;clear hb hbox hg)|((with_reducible refine gate_callee (f:=16) rfl ?_);refine goesL_ (some 4) rfl rfl Try.func16 (by kernel_rfl) rfl #[.slice A0 l0.length c0] rfl (by (try simp only [sM,sC,sN]);first|done|rfl|(simp only [List.length_drop,List.length_take];rfl)) ?_;(with_reducible refine (spec_l01From.calls k _ _ l0 t336 t337 t338 w _ ?side1 ?side2 ?side3 A2.out).mono ?_);(case side1=>repeat (first|(with_reducible first|exact HB.out|apply zA|apply zN|apply zD|refine zS ?_ GE335.out)|exact HB.out));(case side2=>exact HR0.out);(case side3=>exact HC0.out);rintro e w5 ⟨g339,rfl,hi,hb,hb2⟩;refine ⟨_,rfl,?_⟩;have n0_:=aM (blk_below (g:=gb335) (o:=.cells #[.string ⟨#[]⟩,.string ⟨#[]⟩] 25 (0,0)) (by (with_reducible repeat (first|apply yN|apply yD|apply yA));exact BK335.out) hb2);have n1_:=aM (hb);have n2_:=aM (hi);have n3_:=aM (IsS57.ne_blk hi (blk_below (g:=gb335) (o:=.cells #[.string ⟨#[]⟩,.string ⟨#[]⟩] 25 (0,0)) (by (with_reducible repeat (first|apply yN|apply yD|apply yA));exact BK335.out) hb2) (by decide));have n4_:=aM (Ne.symm (IsS57.ne_blk hi (blk_below (g:=gb335) (o:=.cells #[.string ⟨#[]⟩,.string ⟨#[]⟩] 25 (0,0)) (by (with_reducible repeat (first|apply yN|apply yD|apply yA));exact BK335.out) hb2) (by decide)));clear BK335;clear HB;have BK335:=n0_;have HB:=n1_;have HI339:=n2_;have NB339_335:=n3_;have NB335_339:=n4_;clear n0_ n1_ n2_ n3_ n4_;(try clear hb);(try clear hb2);(try clear hk);(try clear hi))|((with_reducible refine gate_callee (f:=17) rfl ?_);refine goesL_ (some 5) rfl rfl Try.func17 (by kernel_rfl) rfl #[.pointer (some ⟨g339,0,none⟩)] rfl (by (try simp only [sM,sC,sN]);first|done|rfl|(simp only [List.length_drop,List.length_take];rfl)) ?_;(with_reducible refine (spec_l02Draw.calls k g339 t336 t337 t338 t340 t341 t342 t343 w _ ?side1 ?side2 A3.out).mono ?_);(case side1=>repeat (first|(with_reducible first|exact HI339.out|apply IsS57.alloc|apply IsS57.drewN|apply IsS57.drew|apply IsS57.set_1|apply IsS57.set_2|refine IsS57.far ?_ NB339_335.out _)|exact HI339.out));(case side2=>repeat (first|(with_reducible first|exact HB.out|apply zA|apply zN|apply zD|refine zS ?_ (IsS57.ge HI339.out)|refine zS ?_ GE335.out)|exact HB.out));rintro e w6 ⟨rfl,hi,hb,hk⟩;refine ⟨_,rfl,?_⟩;replace BK335:=aM (KeepBut.blk hk (g':=gb335) (o:=.cells #[.string ⟨#[]⟩,.string ⟨#[]⟩] 25 (0,0)) (by (with_reducible repeat (first|apply yN|apply yD|apply yA));exact BK335.out) NB335_339.out (by simp));replace HB:=aM (hb);replace HI339:=aM (hi);(try clear hb);(try clear hb2);(try clear hk);(try clear hi);have hnb7:=NB335_339.out;have hnc7:=NB339_335.out;have hcz8_0:w6.cell? ⟨gb335,0,none⟩ = some (.string ⟨#[]⟩):=(blk_cell BK335.out 0).trans rfl;have hcz8_1:w6.cell? ⟨gb335,1,none⟩ = some (.string ⟨#[]⟩):=(blk_cell BK335.out 1).trans rfl;have hfz8_0:=blk_frozen BK335.out 0;have hfz8_1:=blk_frozen BK335.out 1))
 refine bodyPost_ret (results_cell_row rfl _ _ gb335 25 #[.string t340,.string t341] (0,0) _ rfl (by (with_reducible repeat (first|apply yN|apply yD|apply yA));refine blk_put (cs:=#[.string t340,.string ⟨#[]⟩]) ?_ 1 _ rfl;(with_reducible repeat (first|apply yN|apply yD|apply yA));refine blk_put (cs:=#[.string ⟨#[]⟩,.string ⟨#[]⟩]) ?_ 0 _ rfl;(with_reducible repeat (first|apply yN|apply yD|apply yA));exact BK335.out) Try.underlying25 rfl (by kernel_rfl)) rfl ?_
 exact ⟨by first|rfl|(simp [errW_none,errW_some] <;> rfl)|(simp [*,errW_none,errW_some] <;> rfl),by repeat (first|(with_reducible first|exact HB.out|apply zA|apply zN|apply zD|refine zS ?_ (IsS57.ge HI339.out)|refine zS ?_ GE335.out)|exact HB.out)⟩
def impl_InternalAddress.l0:Nat → List Int → Int → ByteArray → ByteArray → Option (List Int × Int)
 | 0,_,_,_,_=>none
 | k + 1,x5,x6,x345000,x345001=>if x6 = 0 then (some (x5,0)) else (if (x5.length:Int) < 20 then (if x5.length < 17592186044416 then ((impl_Sequence_rho.f k x345000 x345001 x6).bind fun t352=>(impl_InternalAddress.l0 k (x5 ++ [x6]) t352 x345000 x345001)) else (none)) else (some (x5,0)))
def impl_InternalAddress.f (k:Nat) (a0_0:ByteArray) (a0_1:ByteArray):Option (List Int × Int):=(impl_sequencesCode.f k true (([(⟨a0_0,a0_1⟩:S25)]:List (S25)))).bind fun t348=>(if t348 = 0 then (impl_InternalAddress.l0 k ([]:List Int) 1 a0_0 a0_1) else (some (([]:List Int),t348)))
theorem impl_InternalAddress.mono_l:∀ k,(∀ y0 y1 y2 y3,LeO (impl_InternalAddress.l0 k y0 y1 y2 y3) (impl_InternalAddress.l0 (k + 1) y0 y1 y2 y3))
 | 0=>fun _ _ _ _ r h=>by simp [impl_InternalAddress.l0] at h
 | k + 1=>by
  have ih0:=impl_InternalAddress.mono_l k
  ·intro y0 y1 y2 y3
   unfold impl_InternalAddress.l0
   repeat' first
   | (with_reducible exact ih0 _ _ _ _)
   | (with_reducible exact impl_Sequence_rho.mono _ _ _ _)
   | (with_reducible exact impl_sequencesCode.mono _ _ _)
   | (with_reducible exact LeO.refl _)
   | (with_reducible exact LeO.none _)
   | (with_reducible refine LeO.ite ?_ ?_)
   | (with_reducible refine LeO.bind ?_ (fun _=>?_))
   | exact ih0 _ _ _ _
   | exact impl_Sequence_rho.mono _ _ _ _
   | exact impl_sequencesCode.mono _ _ _
   | exact LeO.none _
   | refine LeO.ite ?_ ?_
   | refine LeO.bind ?_ (fun _=>?_)
theorem impl_InternalAddress.mono:∀ a0 a1 k,LeO (impl_InternalAddress.f k a0 a1) (impl_InternalAddress.f (k + 1) a0 a1):=by
 intro a0 a1 k
 have ih0:=impl_InternalAddress.mono_l k
 unfold impl_InternalAddress.f
 repeat' first
   | (with_reducible exact ih0 _ _ _ _)
   | (with_reducible exact impl_Sequence_rho.mono _ _ _ _)
   | (with_reducible exact impl_sequencesCode.mono _ _ _)
   | (with_reducible exact LeO.refl _)
   | (with_reducible exact LeO.none _)
   | (with_reducible refine LeO.ite ?_ ?_)
   | (with_reducible refine LeO.bind ?_ (fun _=>?_))
   | exact ih0 _ _ _ _
   | exact impl_Sequence_rho.mono _ _ _ _
   | exact impl_sequencesCode.mono _ _ _
   | exact LeO.none _
   | refine LeO.ite ?_ ?_
   | refine LeO.bind ?_ (fun _=>?_)
set_option maxHeartbeats 8000000 in
set_option maxRecDepth 100000 in
theorem impl_InternalAddress.calls (k:Nat) (a0_0:ByteArray) (a0_1:ByteArray) (r1:List Int) (r2:Int) (w:World) (h:impl_InternalAddress.f k a0_0 a0_1 = some (r1,r2)) :
  Calls Try.prog 9 #[.agg #[.string a0_0,.string a0_1]] w fun e w'=>∃ v0_:Value,e = .returned (.tuple #[v0_,.int .i64 r2]) ∧ Kd.R (Kd.int .i64) 2 w' w.heap.size (fun _=>True) v0_ r1 ∧ Below w.heap.size w w':=by
 have hu25:=Try.underlying25
 have HB:=aM (Below.refl w.heap.size w)
 have H:((impl_sequencesCode.f k true (([(⟨a0_0,a0_1⟩:S25)]:List (S25)))).bind fun t348=>(if t348 = 0 then (impl_InternalAddress.l0 k ([]:List Int) 1 a0_0 a0_1) else (some (([]:List Int),t348)))) = some (r1,r2):=h
 clear h
 obtain ⟨y345,hy345⟩:∃ y_:List (S25),y_ = (([(⟨a0_0,a0_1⟩:S25)]:List (S25))):=⟨_,rfl⟩
 replace H:((impl_sequencesCode.f k true y345).bind fun t348=>(if t348 = 0 then (impl_InternalAddress.l0 k ([]:List Int) 1 a0_0 a0_1) else (some (([]:List Int),t348)))) = some (r1,r2):=by first|(rw [hy345];with_reducible exact H)|(have H2_:=(Option.bind_some _ _).symm.trans H;rw [hy345];with_reducible exact H2_)|(have H2_:=(Option.bind_some _ _).symm.trans H;with_reducible exact H2_)|with_reducible exact H|(rw [hy345];exact H)|exact H
 have Ny345:=aM hy345
 clear hy345
 replace H:=Option.bind_eq_some_iff.mp H
 obtain ⟨t348,A20,H⟩:=H
 replace H:(if t348 = 0 then (impl_InternalAddress.l0 k ([]:List Int) 1 a0_0 a0_1) else (some (([]:List Int),t348))) = some (r1,r2):=H
 have A2:=aM A20
 clear A20
 by_cases c3:t348 = 0
 ·rw [if_pos c3] at H
  have c3b0:(t348 == 0) = true:=beq_iff_eq.mpr c3
  have c3b1:(t348 != 0) = false:=bne_eq_false_iff_eq.mpr c3
  clear c3
  have H':=aM H
  clear H
  go_enter Try.func9,Try.ntmps9
  go_wp2_with (first|((with_reducible refine gate_dst (N:=1) rfl ?_);(try (refine gate_guard (by rfl) ?_;dsimp only));refine box_event ?hg (N:=1) ?hd (cs:=#[.string a0_0,.string a0_1]) (t:=25) ?hr ?_;(case hd=>rfl);(case hg=>rfl);(case hr=>first|(go_simp;done)|(go_simp;rfl));intro gb344 hg w4 hbox hb;have n0_:=aM (below_step HB.out hb);have n1_:=aM (hbox);have n2_:=aM ((by rw [hg];exact (below_size HB.out):w.heap.size ≤ gb344));have n3_:=aM ((by rw [hg];exact (below_size HB.out):w.heap.size ≤ gb344));clear HB;have HB:=n0_;have BK344:=n1_;have GW344:=n2_;have GE344:=n3_;clear n0_ n1_ n2_ n3_;clear hb hbox hg;have hcz5_0:w4.cell? ⟨gb344,0,none⟩ = some (.string a0_0):=(blk_cell BK344.out 0).trans rfl;have hcz5_1:w4.cell? ⟨gb344,1,none⟩ = some (.string a0_1):=(blk_cell BK344.out 1).trans rfl;have hfz5_0:=blk_frozen BK344.out 0;have hfz5_1:=blk_frozen BK344.out 1)|((with_reducible refine gate_dst (N:=8) rfl ?_);(try (refine gate_guard (by rfl) ?_;dsimp only));refine Kd.R_lit k25 _ 25 ?hg (N:=8) ?hd (xs:=([(⟨a0_0,a0_1⟩:S25)]:List (S25))) (inner:=[.string a0_0,.string a0_1]) (ok:=fun _=>True) (okp:=fun _=>True) ?hr ?hp (fun _ hk=>hk) trivial (Below.refl _ _) (Nat.le_refl _) (by simp) ?_;(case hd=>rfl);(case hg=>rfl);(case hr=>first|(go_simp;done)|(go_simp;rfl));(case hp=>exact (Reps.c2 (show Kd.M k25 _ _ _ (⟨a0_0,a0_1⟩:S25) [.string a0_0,.string a0_1] from (k25_mkM _ _ _ (⟨a0_0,a0_1⟩:S25) )) (Reps.none _ _)));intro v346 w6 ho7 hb hg_ hnew_;clear hg_ hnew_;(first|rw [← Ny345.out] at ho7|(simp only [Int.reduceToNat] at ho7;rw [← Ny345.out] at ho7));have HO347:=aM (Kd.R_lower (Kd.R_newB ho7 (g:=gb344) (o:=.cells #[.string a0_0,.string a0_1] 25 (0,0)) BK344.out) (below_size HB.out));replace BK344:=aM (blk_below (g:=gb344) (o:=.cells #[.string a0_0,.string a0_1] 25 (0,0)) BK344.out hb);replace HB:=aM (below_step HB.out hb);clear hb ho7;obtain ⟨Ao8,co8,eo8⟩:=Kd.R_slice HO347.out;subst eo8)|((with_reducible refine gate_callee (f:=19) rfl ?_);refine goesL_ (some 9) rfl rfl Try.func19 (by kernel_rfl) rfl #[.bool true,.slice Ao8 y345.length co8] rfl (by (try simp only [sM,sC,sN]);first|done|rfl|(simp only [List.length_drop,List.length_take];rfl)) ?_;(with_reducible refine (impl_sequencesCode.calls k true _ _ y345 t348 _ ?side1 ?side2 A2.out).mono ?_);(case side1=>repeat (first|exact (Kd.R_reads' HO347.out).2.2|(with_reducible refine cA ?_ _)|(with_reducible refine cN ?_ _)|(with_reducible refine cD ?_)));(case side2=>exact (Kd.R_reads' HO347.out).2.1);rintro e w9 ⟨rfl,hb⟩;refine ⟨_,rfl,?_⟩;replace HO347:=aM (Kd.R_below HO347.out hb);replace BK344:=aM (blk_below (g:=gb344) (o:=.cells #[.string a0_0,.string a0_1] 25 (0,0)) BK344.out hb);replace HB:=aM (below_step HB.out hb);(try clear hb);(try clear hb2);(try clear hk);(try clear hi)))
  go_loopg [5,6] k (fun kq v5 v6 w'=>∃ (x5_1:List Int) (x6_1:Int),v6 = .int .i64 x6_1 ∧ Aside0 (impl_InternalAddress.l0 kq x5_1 x6_1 a0_0 a0_1 = some (r1,r2)) ∧ Aside0 (kq ≤ k) ∧ Aside0 (Kd.R (Kd.int .i64) 2 w' w.heap.size (fun _=>True) v5 x5_1) ∧ Aside0 (w'.heap[gb344]? = some (.cells #[.string a0_0,.string a0_1] 25 (0,0))) ∧ Aside0 (Below w.heap.size w w'))
  case atStart=>exact ⟨(([]:List Int)),(1),(by first|rfl|(simp;done)|(simp [*];done)),H',⟨Nat.le_refl _⟩,⟨by first|exact Kd.R_nil _ _ _ _ _|exact Kd.N_nil _ _ _ _ _|exact Kd.V_nil _ _ _ _ _|exact Kd.Q_nil _ _ _ _ _|exact Kd.S_nil _ _ _ _ _⟩,⟨BK344.out⟩,⟨HB.out⟩⟩
  case round =>
   clear H'
   try clear c1
   try clear c2
   try clear p2
   try clear c3
   try clear c3b0
   try clear c3b1
   try clear c9
   try clear hcz5_0
   try clear hcz5_1
   try clear hfz5_0
   try clear hfz5_1
   obtain ⟨x5_1,x6_1,rfl,HA,HK1,HO_5,BK344,HB⟩:=hrel
   cases gk with
   | zero=>exact absurd HA.out (by simp [impl_InternalAddress.l0])
   | succ k1 =>
    have H:=HA.out
    clear HA
    simp only [impl_InternalAddress.l0] at H
    by_cases c10:x6_1 = 0
    ·rw [if_pos c10] at H
     have c10b0:(x6_1 == 0) = true:=beq_iff_eq.mpr c10
     have c10b1:(x6_1 != 0) = false:=bne_eq_false_iff_eq.mpr c10
     clear c10
     simp only [Option.some.injEq,Prod.mk.injEq] at H
     obtain ⟨rfl,rfl⟩:=H
     go_wp2
     go_ret2
     exact ⟨_,by first|rfl|(simp [errW_none,errW_some] <;> rfl)|(simp [*,errW_none,errW_some] <;> rfl),HO_5.out,HB.out⟩
    ·rw [if_neg c10] at H
     have c10b0:(x6_1 == 0) = false:=beq_eq_false_iff_ne.mpr c10
     have c10b1:(x6_1 != 0) = true:=bne_iff_ne.mpr c10
     by_cases c11:(x5_1.length:Int) < 20
     ·rw [if_pos c11] at H
      have c11b0:decide ((x5_1.length:Int) < 20) = true:=decide_eq_true c11
      have c11b1:decide (x5_1.length < 20) = true:=decide_eq_true (by omega)
      clear c11
      by_cases c12:x5_1.length < 17592186044416
      ·rw [if_pos c12] at H
       have LMc12:=aM c12
       clear c12
       obtain ⟨y349,hy349⟩:∃ y_:List Int,y_ = (x5_1 ++ [x6_1]):=⟨_,rfl⟩
       replace H:((impl_Sequence_rho.f k1 a0_0 a0_1 x6_1).bind fun t352=>(impl_InternalAddress.l0 k1 y349 t352 a0_0 a0_1)) = some (r1,r2):=by first|(rw [hy349];with_reducible exact H)|(have H2_:=(Option.bind_some _ _).symm.trans H;rw [hy349];with_reducible exact H2_)|(have H2_:=(Option.bind_some _ _).symm.trans H;with_reducible exact H2_)|with_reducible exact H|(rw [hy349];exact H)|exact H
       have Ny349:=aM hy349
       clear hy349
       replace H:=Option.bind_eq_some_iff.mp H
       obtain ⟨t352,A130,H⟩:=H
       replace H:(impl_InternalAddress.l0 k1 y349 t352 a0_0 a0_1) = some (r1,r2):=H
       have A13:=aM A130
       clear A130
       have H':=aM H
       clear H
       obtain ⟨Ao14,co14,eo14⟩:=Kd.R_slice HO_5.out
       subst eo14
       go_wp2_with (first|((with_reducible refine gate_builtin (b:=.append) (xs:=#[.tmp 23,.tmp 25]) rfl ?_);(try (refine gate_guard (by rfl) ?_;dsimp only));at_builtin;refine Kd.R_append (Kd.int .i64) (w0:=w) w.heap.size rfl (.tmp 23) (.tmp 25) 31 2 (.int .i64 0) 8 rfl Try.underlying31 info2 rfl (by decide) (by omega) (.slice Ao14 x5_1.length co14) x5_1 x6_1 [.int .i64 x6_1] (fun _=>True) (fun _=>False) rfl rfl ?aP (fun _ hk=>hk.elim) ?aF ?aO ?aB ?aS ?aL ?_;(case aP=>exact rfl);(case aB=>exact HB.out);(case aF=>exact (fun _ _=>trivial));(case aO=>exact HO_5.out);(case aS=>exact (below_size HB.out));(case aL=>have:=LMc12.out;omega);intro v350 w15 ho hb hg hat;rw [← Ny349.out] at ho;have n0_:=aM (blk_grown (g:=gb344) (o:=.cells #[.string a0_0,.string a0_1] 25 (0,0)) BK344.out hg (Kd.R_ne HO_5.out BK344.out (by decide)));have n1_:=aM (hb);have n2_:=aM (ho);clear BK344;clear HB;clear HO_5;have BK344:=n0_;have HB:=n1_;have HO351:=n2_;clear n0_ n1_ n2_;clear ho hb hg hat;have hcz16_0:w15.cell? ⟨gb344,0,none⟩ = some (.string a0_0):=(blk_cell BK344.out 0).trans rfl;have hcz16_1:w15.cell? ⟨gb344,1,none⟩ = some (.string a0_1):=(blk_cell BK344.out 1).trans rfl;have hfz16_0:=blk_frozen BK344.out 0;have hfz16_1:=blk_frozen BK344.out 1)|((with_reducible refine gate_callee (f:=21) rfl ?_);refine goesL_ (some 22) rfl rfl Try.func21 (by kernel_rfl) rfl #[.agg #[.string a0_0,.string a0_1],.int .i64 x6_1] rfl (by (try simp only [sM,sC,sN]);first|done|rfl|(simp only [List.length_drop,List.length_take];rfl)) ?_;(with_reducible refine (impl_Sequence_rho.calls k1 a0_0 a0_1 x6_1 t352 _ A13.out).mono ?_);rintro e w17 ⟨rfl,hb⟩;refine ⟨_,rfl,?_⟩;replace HO351:=aM (Kd.R_below HO351.out hb);replace BK344:=aM (blk_below (g:=gb344) (o:=.cells #[.string a0_0,.string a0_1] 25 (0,0)) BK344.out hb);replace HB:=aM (below_step HB.out hb);(try clear hb);(try clear hb2);(try clear hk);(try clear hi)))
       go_roundg k1
       case measure=>have:=HK1.out;omega
       case rel=>exact ⟨(y349),(t352),(by first|rfl|(simp;done)|(simp [*];done)),H',⟨by have:=HK1.out;omega⟩,⟨HO351.out⟩,⟨BK344.out⟩,⟨HB.out⟩⟩
      ·rw [if_neg c12] at H
       exact absurd H (by simp)
     ·rw [if_neg c11] at H
      have c11b0:decide ((x5_1.length:Int) < 20) = false:=decide_eq_false c11
      have c11b1:decide (x5_1.length < 20) = false:=decide_eq_false (by omega)
      clear c11
      simp only [Option.some.injEq,Prod.mk.injEq] at H
      obtain ⟨rfl,rfl⟩:=H
      obtain ⟨Ao18,co18,eo18⟩:=Kd.R_slice HO_5.out
      subst eo18
      go_wp2
      go_ret2
      exact ⟨_,by first|rfl|(simp [errW_none,errW_some] <;> rfl)|(simp [*,errW_none,errW_some] <;> rfl),HO_5.out,HB.out⟩
 ·rw [if_neg c3] at H
  have c3b0:(t348 == 0) = false:=beq_eq_false_iff_ne.mpr c3
  have c3b1:(t348 != 0) = true:=bne_iff_ne.mpr c3
  simp only [Option.some.injEq,Prod.mk.injEq] at H
  obtain ⟨rfl,rfl⟩:=H
  go_enter Try.func9,Try.ntmps9
  go_wp2_with (first|((with_reducible refine gate_dst (N:=1) rfl ?_);(try (refine gate_guard (by rfl) ?_;dsimp only));refine box_event ?hg (N:=1) ?hd (cs:=#[.string a0_0,.string a0_1]) (t:=25) ?hr ?_;(case hd=>rfl);(case hg=>rfl);(case hr=>first|(go_simp;done)|(go_simp;rfl));intro gb344 hg w19 hbox hb;have n0_:=aM (below_step HB.out hb);have n1_:=aM (hbox);have n2_:=aM ((by rw [hg];exact (below_size HB.out):w.heap.size ≤ gb344));have n3_:=aM ((by rw [hg];exact (below_size HB.out):w.heap.size ≤ gb344));clear HB;have HB:=n0_;have BK344:=n1_;have GW344:=n2_;have GE344:=n3_;clear n0_ n1_ n2_ n3_;clear hb hbox hg;have hcz20_0:w19.cell? ⟨gb344,0,none⟩ = some (.string a0_0):=(blk_cell BK344.out 0).trans rfl;have hcz20_1:w19.cell? ⟨gb344,1,none⟩ = some (.string a0_1):=(blk_cell BK344.out 1).trans rfl;have hfz20_0:=blk_frozen BK344.out 0;have hfz20_1:=blk_frozen BK344.out 1)|((with_reducible refine gate_dst (N:=8) rfl ?_);(try (refine gate_guard (by rfl) ?_;dsimp only));refine Kd.R_lit k25 _ 25 ?hg (N:=8) ?hd (xs:=([(⟨a0_0,a0_1⟩:S25)]:List (S25))) (inner:=[.string a0_0,.string a0_1]) (ok:=fun _=>True) (okp:=fun _=>True) ?hr ?hp (fun _ hk=>hk) trivial (Below.refl _ _) (Nat.le_refl _) (by simp) ?_;(case hd=>rfl);(case hg=>rfl);(case hr=>first|(go_simp;done)|(go_simp;rfl));(case hp=>exact (Reps.c2 (show Kd.M k25 _ _ _ (⟨a0_0,a0_1⟩:S25) [.string a0_0,.string a0_1] from (k25_mkM _ _ _ (⟨a0_0,a0_1⟩:S25) )) (Reps.none _ _)));intro v346 w21 ho22 hb hg_ hnew_;clear hg_ hnew_;(first|rw [← Ny345.out] at ho22|(simp only [Int.reduceToNat] at ho22;rw [← Ny345.out] at ho22));have HO347:=aM (Kd.R_lower (Kd.R_newB ho22 (g:=gb344) (o:=.cells #[.string a0_0,.string a0_1] 25 (0,0)) BK344.out) (below_size HB.out));replace BK344:=aM (blk_below (g:=gb344) (o:=.cells #[.string a0_0,.string a0_1] 25 (0,0)) BK344.out hb);replace HB:=aM (below_step HB.out hb);clear hb ho22;obtain ⟨Ao23,co23,eo23⟩:=Kd.R_slice HO347.out;subst eo23)|((with_reducible refine gate_callee (f:=19) rfl ?_);refine goesL_ (some 9) rfl rfl Try.func19 (by kernel_rfl) rfl #[.bool true,.slice Ao23 y345.length co23] rfl (by (try simp only [sM,sC,sN]);first|done|rfl|(simp only [List.length_drop,List.length_take];rfl)) ?_;(with_reducible refine (impl_sequencesCode.calls k true _ _ y345 t348 _ ?side1 ?side2 A2.out).mono ?_);(case side1=>repeat (first|exact (Kd.R_reads' HO347.out).2.2|(with_reducible refine cA ?_ _)|(with_reducible refine cN ?_ _)|(with_reducible refine cD ?_)));(case side2=>exact (Kd.R_reads' HO347.out).2.1);rintro e w24 ⟨rfl,hb⟩;refine ⟨_,rfl,?_⟩;replace HO347:=aM (Kd.R_below HO347.out hb);replace BK344:=aM (blk_below (g:=gb344) (o:=.cells #[.string a0_0,.string a0_1] 25 (0,0)) BK344.out hb);replace HB:=aM (below_step HB.out hb);(try clear hb);(try clear hb2);(try clear hk);(try clear hi)))
  go_ret2
  exact ⟨_,by first|rfl|(simp [errW_none,errW_some] <;> rfl)|(simp [*,errW_none,errW_some] <;> rfl),by first|exact Kd.R_nil _ _ _ _ _|exact Kd.N_nil _ _ _ _ _|exact Kd.V_nil _ _ _ _ _|exact Kd.Q_nil _ _ _ _ _|exact Kd.S_nil _ _ _ _ _,HB.out⟩
def spec_l02Along.l0:Nat → Int → List Int → Int → ByteArray → ByteArray → Option (List Int)
 | 0,_,_,_,_,_=>none
 | k + 1,x2,x7,x8,x354000,x354001=>if x8 > 0 then (if (x7.length:Int) < x2 then (if x7.length < 17592186044416 then ((spec_l02Rho.f k x354000 x354001 x8).bind fun t360=>(spec_l02Along.l0 k x2 (x7 ++ [x8]) t360 x354000 x354001)) else (none)) else (some x7)) else (some x7)
def spec_l02Along.f (k:Nat) (a0_0:ByteArray) (a0_1:ByteArray) (a1:Int) (a2:Int):Option (List Int):=spec_l02Along.l0 k a2 (([]:List Int)) a1 a0_0 a0_1
theorem spec_l02Along.mono_l:∀ k,(∀ y0 y1 y2 y3 y4,LeO (spec_l02Along.l0 k y0 y1 y2 y3 y4) (spec_l02Along.l0 (k + 1) y0 y1 y2 y3 y4))
 | 0=>fun _ _ _ _ _ r h=>by simp [spec_l02Along.l0] at h
 | k + 1=>by
  have ih0:=spec_l02Along.mono_l k
  ·intro y0 y1 y2 y3 y4
   unfold spec_l02Along.l0
   repeat' first
   | (with_reducible exact ih0 _ _ _ _ _)
   | (with_reducible exact spec_l02Rho.mono _ _ _ _)
   | (with_reducible exact LeO.refl _)
   | (with_reducible exact LeO.none _)
   | (with_reducible refine LeO.ite ?_ ?_)
   | (with_reducible refine LeO.bind ?_ (fun _=>?_))
   | exact ih0 _ _ _ _ _
   | exact spec_l02Rho.mono _ _ _ _
   | exact LeO.none _
   | refine LeO.ite ?_ ?_
   | refine LeO.bind ?_ (fun _=>?_)
theorem spec_l02Along.mono:∀ a0 a1 a2 a3 k,LeO (spec_l02Along.f k a0 a1 a2 a3) (spec_l02Along.f (k + 1) a0 a1 a2 a3):=by
 intro a0 a1 a2 a3 k
 have ih0:=spec_l02Along.mono_l k
 unfold spec_l02Along.f
 repeat' first
   | (with_reducible exact ih0 _ _ _ _ _)
   | (with_reducible exact spec_l02Rho.mono _ _ _ _)
   | (with_reducible exact LeO.refl _)
   | (with_reducible exact LeO.none _)
   | (with_reducible refine LeO.ite ?_ ?_)
   | (with_reducible refine LeO.bind ?_ (fun _=>?_))
   | exact ih0 _ _ _ _ _
   | exact spec_l02Rho.mono _ _ _ _
   | exact LeO.none _
   | refine LeO.ite ?_ ?_
   | refine LeO.bind ?_ (fun _=>?_)
set_option maxHeartbeats 8000000 in
set_option maxRecDepth 100000 in
theorem spec_l02Along.calls (k:Nat) (a0_0:ByteArray) (a0_1:ByteArray) (a1:Int) (a2:Int) (r:List Int) (w:World) (h:spec_l02Along.f k a0_0 a0_1 a1 a2 = some r) :
  Calls Try.prog 25 #[.agg #[.string a0_0,.string a0_1],.int .i64 a1,.int .i64 a2] w fun e w'=>∃ v0_:Value,e = .returned (v0_) ∧ Kd.R (Kd.int .i64) 2 w' w.heap.size (fun _=>True) v0_ r ∧ Below w.heap.size w w':=by
 have hu25:=Try.underlying25
 have HB:=aM (Below.refl w.heap.size w)
 have H:(spec_l02Along.l0 k a2 (([]:List Int)) a1 a0_0 a0_1) = some r:=h
 clear h
 obtain ⟨y354,hy354⟩:∃ y_:List Int,y_ = (([]:List Int)):=⟨_,rfl⟩
 replace H:(spec_l02Along.l0 k a2 y354 a1 a0_0 a0_1) = some r:=by first|(rw [hy354];with_reducible exact H)|(have H2_:=(Option.bind_some _ _).symm.trans H;rw [hy354];with_reducible exact H2_)|(have H2_:=(Option.bind_some _ _).symm.trans H;with_reducible exact H2_)|with_reducible exact H|(rw [hy354];exact H)|exact H
 have Ny354:=aM hy354
 clear hy354
 have H':=aM H
 clear H
 go_enter Try.func25,Try.ntmps25
 go_wp2_with (first|((with_reducible refine gate_dst (N:=3) rfl ?_);(try (refine gate_guard (by rfl) ?_;dsimp only));refine box_event ?hg (N:=3) ?hd (cs:=#[.string a0_0,.string a0_1]) (t:=25) ?hr ?_;(case hd=>rfl);(case hg=>rfl);(case hr=>first|(go_simp;done)|(go_simp;rfl));intro gb353 hg w4 hbox hb;have n0_:=aM (below_step (by repeat (first|(with_reducible first|exact HB.out|apply zA|apply zN|apply zD)|exact HB.out)) hb);have n1_:=aM (hbox);have n2_:=aM ((by rw [hg];exact (below_size (by repeat (first|(with_reducible first|exact HB.out|apply zA|apply zN|apply zD)|exact HB.out))):w.heap.size ≤ gb353));have n3_:=aM ((by rw [hg];exact (below_size (by repeat (first|(with_reducible first|exact HB.out|apply zA|apply zN|apply zD)|exact HB.out))):w.heap.size ≤ gb353));clear HB;have HB:=n0_;have BK353:=n1_;have GW353:=n2_;have GE353:=n3_;clear n0_ n1_ n2_ n3_;clear hb hbox hg)|((with_reducible refine gate_dst (N:=9) rfl ?_);(try (refine gate_guard (by rfl) ?_;dsimp only));refine Kd.R_lit (Kd.int .i64) _ 2 ?hg (N:=9) ?hd (xs:=([]:List Int)) (inner:=[]) (ok:=fun _=>True) (okp:=fun _=>True) ?hr ?hp (fun _ hk=>hk) trivial (Below.refl _ _) (Nat.le_refl _) (by simp) ?_;(case hd=>rfl);(case hg=>rfl);(case hr=>first|(go_simp;done)|(go_simp;rfl));(case hp=>exact (Reps.none _ _));intro v355 w5 ho6 hb hg_ hnew_;clear hg_ hnew_;(first|rw [← Ny354.out] at ho6|(simp only [Int.reduceToNat] at ho6;rw [← Ny354.out] at ho6));have HO356:=aM (Kd.R_lower ho6 (below_size (by repeat (first|(with_reducible first|exact HB.out|apply zA|apply zN|apply zD|refine zS ?_ GE353.out)|exact HB.out))));replace BK353:=aM (blk_below (g:=gb353) (o:=.cells #[.string a0_0,.string a0_1] 25 (0,0)) (by (with_reducible repeat (first|apply yN|apply yD|apply yA));exact BK353.out) hb);replace HB:=aM (below_step (by repeat (first|(with_reducible first|exact HB.out|apply zA|apply zN|apply zD|refine zS ?_ GE353.out)|exact HB.out)) hb);clear hb ho6))
 go_loopg [7,8] k (fun kq v7 v8 w'=>∃ (x7_1:List Int) (x8_1:Int),v8 = .int .i64 x8_1 ∧ Aside0 (spec_l02Along.l0 kq a2 x7_1 x8_1 a0_0 a0_1 = some r) ∧ Aside0 (kq ≤ k) ∧ Aside0 (Kd.R (Kd.int .i64) 2 w' w.heap.size (fun _=>True) v7 x7_1) ∧ Aside0 (w'.heap[gb353]? = some (.cells #[.string a0_0,.string a0_1] 25 (0,0))) ∧ Aside0 (Below w.heap.size w w'))
 case atStart=>exact ⟨(y354),(a1),(by first|rfl|(simp;done)|(simp [*];done)),H',⟨Nat.le_refl _⟩,⟨by (with_reducible repeat (first|apply rA|apply rN|apply rD));exact HO356.out⟩,⟨by (with_reducible repeat (first|apply yN|apply yD|apply yA));exact BK353.out⟩,⟨by repeat (first|(with_reducible first|exact HB.out|apply zA|apply zN|apply zD|refine zS ?_ GE353.out)|exact HB.out)⟩⟩
 case round =>
  clear H'
  try clear c2
  try clear p2
  obtain ⟨x7_1,x8_1,rfl,HA,HK1,HO_7,BK353,HB⟩:=hrel
  cases gk with
  | zero=>exact absurd HA.out (by simp [spec_l02Along.l0])
  | succ k1 =>
   have H:=HA.out
   clear HA
   simp only [spec_l02Along.l0] at H
   by_cases c7:x8_1 > 0
   ·rw [if_pos c7] at H
    have c7b0:decide (0 < x8_1) = true:=decide_eq_true c7
    clear c7
    by_cases c8:(x7_1.length:Int) < a2
    ·rw [if_pos c8] at H
     have c8b0:decide ((x7_1.length:Int) < a2) = true:=decide_eq_true c8
     clear c8
     by_cases c9:x7_1.length < 17592186044416
     ·rw [if_pos c9] at H
      have LMc9:=aM c9
      clear c9
      obtain ⟨y357,hy357⟩:∃ y_:List Int,y_ = (x7_1 ++ [x8_1]):=⟨_,rfl⟩
      replace H:((spec_l02Rho.f k1 a0_0 a0_1 x8_1).bind fun t360=>(spec_l02Along.l0 k1 a2 y357 t360 a0_0 a0_1)) = some r:=by first|(rw [hy357];with_reducible exact H)|(have H2_:=(Option.bind_some _ _).symm.trans H;rw [hy357];with_reducible exact H2_)|(have H2_:=(Option.bind_some _ _).symm.trans H;with_reducible exact H2_)|with_reducible exact H|(rw [hy357];exact H)|exact H
      have Ny357:=aM hy357
      clear hy357
      replace H:=Option.bind_eq_some_iff.mp H
      obtain ⟨t360,A100,H⟩:=H
      replace H:(spec_l02Along.l0 k1 a2 y357 t360 a0_0 a0_1) = some r:=H
      have A10:=aM A100
      clear A100
      have H':=aM H
      clear H
      obtain ⟨Ao11,co11,eo11⟩:=Kd.R_slice HO_7.out
      subst eo11
      go_wp2_with (first|((with_reducible refine gate_builtin (b:=.append) (xs:=#[.tmp 22,.tmp 24]) rfl ?_);(try (refine gate_guard (by rfl) ?_;dsimp only));at_builtin;refine Kd.R_append (Kd.int .i64) (w0:=w) w.heap.size rfl (.tmp 22) (.tmp 24) 31 2 (.int .i64 0) 8 rfl Try.underlying31 info2 rfl (by decide) (by omega) (.slice Ao11 x7_1.length co11) x7_1 x8_1 [.int .i64 x8_1] (fun _=>True) (fun _=>False) rfl rfl ?aP (fun _ hk=>hk.elim) ?aF ?aO ?aB ?aS ?aL ?_;(case aP=>exact rfl);(case aB=>exact (by repeat (first|(with_reducible first|exact HB.out|apply zA|apply zN|apply zD|refine zS ?_ GE353.out)|exact HB.out)));(case aF=>exact (fun _ _=>trivial));(case aO=>exact (by (with_reducible repeat (first|apply rA|apply rN|apply rD));exact HO_7.out));(case aS=>exact (below_size (by repeat (first|(with_reducible first|exact HB.out|apply zA|apply zN|apply zD|refine zS ?_ GE353.out)|exact HB.out))));(case aL=>have:=LMc9.out;omega);intro v358 w12 ho hb hg hat;rw [← Ny357.out] at ho;have n0_:=aM (blk_grown (g:=gb353) (o:=.cells #[.string a0_0,.string a0_1] 25 (0,0)) (by (with_reducible repeat (first|apply yN|apply yD|apply yA));exact BK353.out) hg (Kd.R_ne HO_7.out BK353.out (by decide)));have n1_:=aM (hb);have n2_:=aM (ho);clear BK353;clear HB;clear HO_7;have BK353:=n0_;have HB:=n1_;have HO359:=n2_;clear n0_ n1_ n2_;clear ho hb hg hat;have hcz13_0:w12.cell? ⟨gb353,0,none⟩ = some (.string a0_0):=(blk_cell BK353.out 0).trans rfl;have hcz13_1:w12.cell? ⟨gb353,1,none⟩ = some (.string a0_1):=(blk_cell BK353.out 1).trans rfl;have hfz13_0:=blk_frozen BK353.out 0;have hfz13_1:=blk_frozen BK353.out 1)|((with_reducible refine gate_callee (f:=24) rfl ?_);refine goesL_ (some 21) rfl rfl Try.func24 (by kernel_rfl) rfl #[.agg #[.string a0_0,.string a0_1],.int .i64 x8_1] rfl (by (try simp only [sM,sC,sN]);first|done|rfl|(simp only [List.length_drop,List.length_take];rfl)) ?_;(with_reducible refine (spec_l02Rho.calls k1 a0_0 a0_1 x8_1 t360 _ A10.out).mono ?_);rintro e w14 ⟨rfl,hb⟩;refine ⟨_,rfl,?_⟩;replace HO359:=aM (Kd.R_below (by (with_reducible repeat (first|apply rA|apply rN|apply rD));exact HO359.out) hb);replace BK353:=aM (blk_below (g:=gb353) (o:=.cells #[.string a0_0,.string a0_1] 25 (0,0)) (by (with_reducible repeat (first|apply yN|apply yD|apply yA));exact BK353.out) hb);replace HB:=aM (below_step (by repeat (first|(with_reducible first|exact HB.out|apply zA|apply zN|apply zD|refine zS ?_ GE353.out)|exact HB.out)) hb);(try clear hb);(try clear hb2);(try clear hk);(try clear hi)))
      go_roundg k1
      case measure=>have:=HK1.out;omega
      case rel=>exact ⟨(y357),(t360),(by first|rfl|(simp;done)|(simp [*];done)),H',⟨by have:=HK1.out;omega⟩,⟨by (with_reducible repeat (first|apply rA|apply rN|apply rD));exact HO359.out⟩,⟨by (with_reducible repeat (first|apply yN|apply yD|apply yA));exact BK353.out⟩,⟨by repeat (first|(with_reducible first|exact HB.out|apply zA|apply zN|apply zD|refine zS ?_ GE353.out)|exact HB.out)⟩⟩
     ·rw [if_neg c9] at H
      exact absurd H (by simp)
    ·rw [if_neg c8] at H
     have c8b0:decide ((x7_1.length:Int) < a2) = false:=decide_eq_false c8
     clear c8
     obtain rfl:=Option.some.inj H
     obtain ⟨Ao15,co15,eo15⟩:=Kd.R_slice HO_7.out
     subst eo15
     go_wp2
     go_ret
     exact ⟨_,by first|rfl|(simp [errW_none,errW_some] <;> rfl)|(simp [*,errW_none,errW_some] <;> rfl),by (with_reducible repeat (first|apply rA|apply rN|apply rD));exact HO_7.out,by repeat (first|(with_reducible first|exact HB.out|apply zA|apply zN|apply zD|refine zS ?_ GE353.out)|exact HB.out)⟩
   ·rw [if_neg c7] at H
    have c7b0:decide (0 < x8_1) = false:=decide_eq_false c7
    clear c7
    obtain rfl:=Option.some.inj H
    go_wp2
    go_ret
    exact ⟨_,by first|rfl|(simp [errW_none,errW_some] <;> rfl)|(simp [*,errW_none,errW_some] <;> rfl),by (with_reducible repeat (first|apply rA|apply rN|apply rD));exact HO_7.out,by repeat (first|(with_reducible first|exact HB.out|apply zA|apply zN|apply zD|refine zS ?_ GE353.out)|exact HB.out)⟩
def spec_InternalAddress.f (k:Nat) (a0_0:ByteArray) (a0_1:ByteArray):Option (List Int × Int):=(spec_l01Seq.f k a0_0 a0_1).bind fun t362=>(if t362 = true then ((spec_l02Along.f k a0_0 a0_1 1 20).bind fun t363=>(some (t363,0))) else (some (([]:List Int),1)))
theorem spec_InternalAddress.mono:∀ a0 a1 k,LeO (spec_InternalAddress.f k a0 a1) (spec_InternalAddress.f (k + 1) a0 a1):=by
 intro a0 a1 k
 unfold spec_InternalAddress.f
 repeat' first
   | (with_reducible exact spec_l01Seq.mono _ _ _)
   | (with_reducible exact spec_l02Along.mono _ _ _ _ _)
   | (with_reducible exact LeO.refl _)
   | (with_reducible exact LeO.none _)
   | (with_reducible refine LeO.ite ?_ ?_)
   | (with_reducible refine LeO.bind ?_ (fun _=>?_))
   | exact spec_l01Seq.mono _ _ _
   | exact spec_l02Along.mono _ _ _ _ _
   | exact LeO.none _
   | refine LeO.ite ?_ ?_
   | refine LeO.bind ?_ (fun _=>?_)
set_option maxHeartbeats 8000000 in
set_option maxRecDepth 100000 in
theorem spec_InternalAddress.calls (k:Nat) (a0_0:ByteArray) (a0_1:ByteArray) (r1:List Int) (r2:Int) (w:World) (h:spec_InternalAddress.f k a0_0 a0_1 = some (r1,r2)) :
  Calls Try.prog 10 #[.agg #[.string a0_0,.string a0_1]] w fun e w'=>∃ v0_:Value,e = .returned (.tuple #[v0_,.int .i64 r2]) ∧ Kd.R (Kd.int .i64) 2 w' w.heap.size (fun _=>True) v0_ r1 ∧ Below w.heap.size w w':=by
 have hu25:=Try.underlying25
 have HB:=aM (Below.refl w.heap.size w)
 have H:((spec_l01Seq.f k a0_0 a0_1).bind fun t362=>(if t362 = true then ((spec_l02Along.f k a0_0 a0_1 1 20).bind fun t363=>(some (t363,0))) else (some (([]:List Int),1)))) = some (r1,r2):=h
 clear h
 replace H:=Option.bind_eq_some_iff.mp H
 obtain ⟨t362,A20,H⟩:=H
 replace H:(if t362 = true then ((spec_l02Along.f k a0_0 a0_1 1 20).bind fun t363=>(some (t363,0))) else (some (([]:List Int),1))) = some (r1,r2):=H
 have A2:=aM A20
 clear A20
 by_cases c3:t362 = true
 ·subst c3
  have H1:((spec_l02Along.f k a0_0 a0_1 1 20).bind fun t363=>(some (t363,0))) = some (r1,r2):=by rw [if_pos rfl] at H;exact H
  clear H
  have H:=H1
  clear H1
  replace H:=Option.bind_eq_some_iff.mp H
  obtain ⟨t363,A40,H⟩:=H
  replace H:(some (t363,0)) = some (r1,r2):=H
  have A4:=aM A40
  clear A40
  simp only [Option.some.injEq,Prod.mk.injEq] at H
  obtain ⟨rfl,rfl⟩:=H
  go_enter Try.func10,Try.ntmps10
  go_wp2_with (first|((with_reducible refine gate_dst (N:=1) rfl ?_);refine box_event ?hg (N:=1) ?hd (cs:=#[.string a0_0,.string a0_1]) (t:=25) ?hr ?_;(case hd=>rfl);(case hg=>rfl);(case hr=>first|(go_simp;done)|(go_simp;rfl));intro gb361 hg w5 hbox hb;have n0_:=aM (below_step (by repeat (first|(with_reducible first|exact HB.out|apply zA|apply zN|apply zD)|exact HB.out)) hb);have n1_:=aM (hbox);have n2_:=aM ((by rw [hg];exact (below_size (by repeat (first|(with_reducible first|exact HB.out|apply zA|apply zN|apply zD)|exact HB.out))):w.heap.size ≤ gb361));have n3_:=aM ((by rw [hg];exact (below_size (by repeat (first|(with_reducible first|exact HB.out|apply zA|apply zN|apply zD)|exact HB.out))):w.heap.size ≤ gb361));clear HB;have HB:=n0_;have BK361:=n1_;have GW361:=n2_;have GE361:=n3_;clear n0_ n1_ n2_ n3_;clear hb hbox hg;have hcz6_0:w5.cell? ⟨gb361,0,none⟩ = some (.string a0_0):=(blk_cell BK361.out 0).trans rfl;have hcz6_1:w5.cell? ⟨gb361,1,none⟩ = some (.string a0_1):=(blk_cell BK361.out 1).trans rfl;have hfz6_0:=blk_frozen BK361.out 0;have hfz6_1:=blk_frozen BK361.out 1)|((with_reducible refine gate_callee (f:=22) rfl ?_);refine goesL_ (some 5) rfl rfl Try.func22 (by kernel_rfl) rfl #[.agg #[.string a0_0,.string a0_1]] rfl (by (try simp only [sM,sC,sN]);first|done|rfl|(simp only [List.length_drop,List.length_take];rfl)) ?_;(with_reducible refine (spec_l01Seq.calls k a0_0 a0_1 true _ A2.out).mono ?_);rintro e w7 ⟨rfl,hb⟩;refine ⟨_,rfl,?_⟩;replace BK361:=aM (blk_below (g:=gb361) (o:=.cells #[.string a0_0,.string a0_1] 25 (0,0)) (by (with_reducible repeat (first|apply yN|apply yD|apply yA));exact BK361.out) hb);replace HB:=aM (below_step (by repeat (first|(with_reducible first|exact HB.out|apply zA|apply zN|apply zD|refine zS ?_ GE361.out)|exact HB.out)) hb);(try clear hb);(try clear hb2);(try clear hk);(try clear hi);have hcz8_0:w7.cell? ⟨gb361,0,none⟩ = some (.string a0_0):=(blk_cell BK361.out 0).trans rfl;have hcz8_1:w7.cell? ⟨gb361,1,none⟩ = some (.string a0_1):=(blk_cell BK361.out 1).trans rfl;have hfz8_0:=blk_frozen BK361.out 0;have hfz8_1:=blk_frozen BK361.out 1)|((with_reducible refine gate_callee (f:=25) rfl ?_);refine goesL_ (some 8) rfl rfl Try.func25 (by kernel_rfl) rfl #[.agg #[.string a0_0,.string a0_1],.int .i64 1,.int .i64 20] rfl (by (try simp only [sM,sC,sN]);first|done|rfl|(simp only [List.length_drop,List.length_take];rfl)) ?_;(with_reducible refine (spec_l02Along.calls k a0_0 a0_1 1 20 t363 _ A4.out).mono ?_);rintro e w9 ⟨v364,rfl,ho0,hb⟩;refine ⟨_,rfl,?_⟩;have HO365:=aM (Kd.R_lower ho0 (below_size (by repeat (first|(with_reducible first|exact HB.out|apply zA|apply zN|apply zD|refine zS ?_ GE361.out)|exact HB.out))));replace BK361:=aM (blk_below (g:=gb361) (o:=.cells #[.string a0_0,.string a0_1] 25 (0,0)) (by (with_reducible repeat (first|apply yN|apply yD|apply yA));exact BK361.out) hb);replace HB:=aM (below_step (by repeat (first|(with_reducible first|exact HB.out|apply zA|apply zN|apply zD|refine zS ?_ GE361.out)|exact HB.out)) hb);(try clear hb);(try clear hb2);(try clear hk);(try clear hi);(try clear ho0)))
  go_ret2
  exact ⟨_,by first|rfl|(simp [errW_none,errW_some] <;> rfl)|(simp [*,errW_none,errW_some] <;> rfl),by (with_reducible repeat (first|apply rA|apply rN|apply rD));exact HO365.out,by repeat (first|(with_reducible first|exact HB.out|apply zA|apply zN|apply zD|refine zS ?_ GE361.out)|exact HB.out)⟩
 ·replace c3:=Bool.eq_false_iff.mpr c3
  subst c3
  have H1:(some (([]:List Int),1)) = some (r1,r2):=by rw [if_neg (show ¬ (false = true) by decide)] at H;exact H
  clear H
  have H:=H1
  clear H1
  simp only [Option.some.injEq,Prod.mk.injEq] at H
  obtain ⟨rfl,rfl⟩:=H
  go_enter Try.func10,Try.ntmps10
  go_wp2_with (first|((with_reducible refine gate_dst (N:=1) rfl ?_);refine box_event ?hg (N:=1) ?hd (cs:=#[.string a0_0,.string a0_1]) (t:=25) ?hr ?_;(case hd=>rfl);(case hg=>rfl);(case hr=>first|(go_simp;done)|(go_simp;rfl));intro gb361 hg w10 hbox hb;have n0_:=aM (below_step (by repeat (first|(with_reducible first|exact HB.out|apply zA|apply zN|apply zD)|exact HB.out)) hb);have n1_:=aM (hbox);have n2_:=aM ((by rw [hg];exact (below_size (by repeat (first|(with_reducible first|exact HB.out|apply zA|apply zN|apply zD)|exact HB.out))):w.heap.size ≤ gb361));have n3_:=aM ((by rw [hg];exact (below_size (by repeat (first|(with_reducible first|exact HB.out|apply zA|apply zN|apply zD)|exact HB.out))):w.heap.size ≤ gb361));clear HB;have HB:=n0_;have BK361:=n1_;have GW361:=n2_;have GE361:=n3_;clear n0_ n1_ n2_ n3_;clear hb hbox hg;have hcz11_0:w10.cell? ⟨gb361,0,none⟩ = some (.string a0_0):=(blk_cell BK361.out 0).trans rfl;have hcz11_1:w10.cell? ⟨gb361,1,none⟩ = some (.string a0_1):=(blk_cell BK361.out 1).trans rfl;have hfz11_0:=blk_frozen BK361.out 0;have hfz11_1:=blk_frozen BK361.out 1)|((with_reducible refine gate_callee (f:=22) rfl ?_);refine goesL_ (some 5) rfl rfl Try.func22 (by kernel_rfl) rfl #[.agg #[.string a0_0,.string a0_1]] rfl (by (try simp only [sM,sC,sN]);first|done|rfl|(simp only [List.length_drop,List.length_take];rfl)) ?_;(with_reducible refine (spec_l01Seq.calls k a0_0 a0_1 false _ A2.out).mono ?_);rintro e w12 ⟨rfl,hb⟩;refine ⟨_,rfl,?_⟩;replace BK361:=aM (blk_below (g:=gb361) (o:=.cells #[.string a0_0,.string a0_1] 25 (0,0)) (by (with_reducible repeat (first|apply yN|apply yD|apply yA));exact BK361.out) hb);replace HB:=aM (below_step (by repeat (first|(with_reducible first|exact HB.out|apply zA|apply zN|apply zD|refine zS ?_ GE361.out)|exact HB.out)) hb);(try clear hb);(try clear hb2);(try clear hk);(try clear hi)))
  go_ret2
  exact ⟨_,by first|rfl|(simp [errW_none,errW_some] <;> rfl)|(simp [*,errW_none,errW_some] <;> rfl),by first|exact Kd.R_nil _ _ _ _ _|exact Kd.N_nil _ _ _ _ _|exact Kd.V_nil _ _ _ _ _|exact Kd.Q_nil _ _ _ _ _|exact Kd.S_nil _ _ _ _ _,by repeat (first|(with_reducible first|exact HB.out|apply zA|apply zN|apply zD|refine zS ?_ GE361.out)|exact HB.out)⟩
def laws_likeInts.l0:Nat → List Int → List Int → Int → Option (Bool)
 | 0,_,_,_=>none
 | k + 1,x0,x1,x5=>if x5 < (x0.length:Int) then (if 0 ≤ x5 then (if x5 < (x1.length:Int) then (if (rd x0 x5) = (rd x1 x5) then (laws_likeInts.l0 k x0 x1 (wrap64 (x5 + 1))) else (some false)) else (none)) else (none)) else (some true)
def laws_likeInts.f (k:Nat) (l0:List Int) (l1:List Int):Option (Bool):=if (l0.length:Int) = (l1.length:Int) then (laws_likeInts.l0 k l0 l1 0) else (some false)
theorem laws_likeInts.mono_l:∀ k,(∀ y0 y1 y2,LeO (laws_likeInts.l0 k y0 y1 y2) (laws_likeInts.l0 (k + 1) y0 y1 y2))
 | 0=>fun _ _ _ r h=>by simp [laws_likeInts.l0] at h
 | k + 1=>by
  have ih0:=laws_likeInts.mono_l k
  ·intro y0 y1 y2
   unfold laws_likeInts.l0
   repeat' first
   | (with_reducible exact ih0 _ _ _)
   | (with_reducible exact LeO.refl _)
   | (with_reducible exact LeO.none _)
   | (with_reducible refine LeO.ite ?_ ?_)
   | (with_reducible refine LeO.bind ?_ (fun _=>?_))
   | exact ih0 _ _ _
   | exact LeO.none _
   | refine LeO.ite ?_ ?_
   | refine LeO.bind ?_ (fun _=>?_)
theorem laws_likeInts.mono:∀ a0 a1 k,LeO (laws_likeInts.f k a0 a1) (laws_likeInts.f (k + 1) a0 a1):=by
 intro a0 a1 k
 have ih0:=laws_likeInts.mono_l k
 unfold laws_likeInts.f
 repeat' first
   | (with_reducible exact ih0 _ _ _)
   | (with_reducible exact LeO.refl _)
   | (with_reducible exact LeO.none _)
   | (with_reducible refine LeO.ite ?_ ?_)
   | (with_reducible refine LeO.bind ?_ (fun _=>?_))
   | exact ih0 _ _ _
   | exact LeO.none _
   | refine LeO.ite ?_ ?_
   | refine LeO.bind ?_ (fun _=>?_)
set_option maxHeartbeats 8000000 in
set_option maxRecDepth 100000 in
theorem laws_likeInts.calls (k:Nat) (A0:Option Addr) (c0:Nat) (l0:List Int) (A1:Option Addr) (c1:Nat) (l1:List Int) (r:Bool) (w:World) (hr0:Kd.C (Kd.int .i64) w A0 l0.length l0) (hc0:l0.length ≤ c0) (hr1:Kd.C (Kd.int .i64) w A1 l1.length l1) (hc1:l1.length ≤ c1) (h:laws_likeInts.f k l0 l1 = some r) :
  Calls Try.prog 11 #[.slice A0 l0.length c0,.slice A1 l1.length c1] w fun e w'=>e = .returned (.bool r) ∧ Drawn0 w w':=by
 have HR0:=aM hr0
 have HC0:=aM hc0
 clear hr0 hc0
 have HR1:=aM hr1
 have HC1:=aM hc1
 clear hr1 hc1
 have H:(if (l0.length:Int) = (l1.length:Int) then (laws_likeInts.l0 k l0 l1 0) else (some false)) = some r:=h
 clear h
 by_cases c3:(l0.length:Int) = (l1.length:Int)
 ·rw [if_pos c3] at H
  have c3b0:((l0.length:Int) == (l1.length:Int)) = true:=beq_iff_eq.mpr c3
  have c3b1:((l0.length:Int) != (l1.length:Int)) = false:=bne_eq_false_iff_eq.mpr c3
  have c3b2:(l0.length == l1.length) = true:=by first|simpa using c3|(simp at c3 ⊢;omega)
  clear c3
  have H':=aM H
  clear H
  go_enter Try.func11,Try.ntmps11
  go_wp2
  repeat (go_quiet (fail);try go_wp2)
  go_loopg [5] k (fun kq v5 w'=>∃ (x5_1:Int),v5 = .int .i64 x5_1 ∧ Aside0 (laws_likeInts.l0 kq l0 l1 x5_1 = some r) ∧ Aside0 (kq ≤ k) ∧ Drawn0 w w')
  case atStart=>exact ⟨(0),(by first|rfl|(simp;done)|(simp [*];done)),H',⟨Nat.le_refl _⟩,by repeat (first|exact Drawn0.refl _|apply Drawn0.step)⟩
  case round =>
   clear H'
   try clear c1
   try clear p2
   try clear c3
   try clear c3b0
   try clear c3b1
   try clear c3b2
   obtain ⟨x5_1,rfl,HA,HK1,⟨m1,rfl⟩⟩:=hrel
   cases gk with
   | zero=>exact absurd HA.out (by simp [laws_likeInts.l0])
   | succ k1 =>
    have H:=HA.out
    clear HA
    simp only [laws_likeInts.l0] at H
    by_cases c4:x5_1 < (l0.length:Int)
    ·rw [if_pos c4] at H
     have c4b0:decide (x5_1 < (l0.length:Int)) = true:=decide_eq_true c4
     clear c4
     by_cases c5:0 ≤ x5_1
     ·rw [if_pos c5] at H
      have c5b0:decide (0 ≤ x5_1) = true:=decide_eq_true c5
      clear c5
      by_cases c6:x5_1 < (l1.length:Int)
      ·rw [if_pos c6] at H
       have c6b0:decide (x5_1 < (l1.length:Int)) = true:=decide_eq_true c6
       clear c6
       by_cases c7:(rd l0 x5_1) = (rd l1 x5_1)
       ·rw [if_pos c7] at H
        have c7b0:((rd l0 x5_1) == (rd l1 x5_1)) = true:=beq_iff_eq.mpr c7
        have c7b1:((rd l0 x5_1) != (rd l1 x5_1)) = false:=bne_eq_false_iff_eq.mpr c7
        clear c7
        have H':=aM H
        clear H
        have p366:0 ≤ (x5_1:Int):=of_decide_eq_true (by first|(with_reducible assumption)|assumption)
        have q366:x5_1 < (l0.length:Int):=of_decide_eq_true (by first|(with_reducible assumption)|assumption)
        obtain ⟨ad366,e366,hx366_0⟩:=Kd.at_int HR0.out x5_1 p366 q366
        cases e366
        replace p366:=eq_true p366
        replace q366:=eq_true q366
        have p367:0 ≤ (x5_1:Int):=of_decide_eq_true (by first|(with_reducible assumption)|assumption)
        have q367:x5_1 < (l1.length:Int):=of_decide_eq_true (by first|(with_reducible assumption)|assumption)
        obtain ⟨ad367,e367,hx367_0⟩:=Kd.at_int HR1.out x5_1 p367 q367
        cases e367
        replace p367:=eq_true p367
        replace q367:=eq_true q367
        go_wp2
        repeat (go_quiet (fail);try go_wp2)
        go_roundg k1
        case measure=>have:=HK1.out;omega
        case rel=>exact ⟨(wrap64 (x5_1 + 1)),(by first|rfl|(simp;done)|(simp [*];done)),H',⟨by have:=HK1.out;omega⟩,by repeat (first|exact Drawn0.refl _|apply Drawn0.step)⟩
       ·rw [if_neg c7] at H
        have c7b0:((rd l0 x5_1) == (rd l1 x5_1)) = false:=beq_eq_false_iff_ne.mpr c7
        have c7b1:((rd l0 x5_1) != (rd l1 x5_1)) = true:=bne_iff_ne.mpr c7
        obtain rfl:=Option.some.inj H
        have p366:0 ≤ (x5_1:Int):=of_decide_eq_true (by first|(with_reducible assumption)|assumption)
        have q366:x5_1 < (l0.length:Int):=of_decide_eq_true (by first|(with_reducible assumption)|assumption)
        obtain ⟨ad366,e366,hx366_0⟩:=Kd.at_int HR0.out x5_1 p366 q366
        cases e366
        replace p366:=eq_true p366
        replace q366:=eq_true q366
        have p367:0 ≤ (x5_1:Int):=of_decide_eq_true (by first|(with_reducible assumption)|assumption)
        have q367:x5_1 < (l1.length:Int):=of_decide_eq_true (by first|(with_reducible assumption)|assumption)
        obtain ⟨ad367,e367,hx367_0⟩:=Kd.at_int HR1.out x5_1 p367 q367
        cases e367
        replace p367:=eq_true p367
        replace q367:=eq_true q367
        go_wp2
        repeat (go_quiet (fail);try go_wp2)
        go_ret
        exact ⟨by first|rfl|(simp;done)|(simp [*];done),by repeat (first|exact Drawn0.refl _|apply Drawn0.step)⟩
      ·rw [if_neg c6] at H
       exact absurd H (by simp)
     ·rw [if_neg c5] at H
      exact absurd H (by simp)
    ·rw [if_neg c4] at H
     have c4b0:decide (x5_1 < (l0.length:Int)) = false:=decide_eq_false c4
     clear c4
     obtain rfl:=Option.some.inj H
     go_wp2
     repeat (go_quiet (fail);try go_wp2)
     go_ret
     exact ⟨by first|rfl|(simp;done)|(simp [*];done),by repeat (first|exact Drawn0.refl _|apply Drawn0.step)⟩
 ·rw [if_neg c3] at H
  have c3b0:((l0.length:Int) == (l1.length:Int)) = false:=beq_eq_false_iff_ne.mpr c3
  have c3b1:((l0.length:Int) != (l1.length:Int)) = true:=bne_iff_ne.mpr c3
  have c3b2:(l0.length == l1.length) = false:=by first|simpa using c3|(simp at c3 ⊢;omega)
  obtain rfl:=Option.some.inj H
  go_enter Try.func11,Try.ntmps11
  go_wp2
  repeat (go_quiet (fail);try go_wp2)
  go_ret
  exact ⟨by first|rfl|(simp;done)|(simp [*];done),by repeat (first|exact Drawn0.refl _|apply Drawn0.step)⟩
end Go.Proofs.Ytccinmopfchjlaa.Q
end
