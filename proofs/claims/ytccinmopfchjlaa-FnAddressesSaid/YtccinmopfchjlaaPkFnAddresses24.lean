/- Joined texts: Qx15a, Qx15, Qx16, Qx17, Qx18, Qx24, Qx25 -/
import Derived.Test.YtccinmopfchjlaaPkFnAddresses22
import Derived.Test.YtccinmopfchjlaaPkFnAddresses23
section
namespace Go.Proofs.Ytccinmopfchjlaa.Q
open Go.Proofs.YtccinmopfchjlaaW.Ext
open Go.RowKit Go.Proofs.YtccinmopfchjlaaW.PrintWords Go.Proofs.YtccinmopfchjlaaW.PrintLast Go.Proofs.YtccinmopfchjlaaW.PrintMore
attribute [local go_sem] max2_int min2_int max_two min_two max_three min_three max_four min_four   -- for this text's walks alone
set_option linter.unusedVariables false
set_option linter.unusedSimpArgs false
abbrev iA:=@IsS57.alloc
abbrev iN:=@IsS57.drewN
abbrev iD:=@IsS57.drew
set_option maxHeartbeats 8000000 in
set_option maxRecDepth 100000 in
theorem spec_l02Draw.way0 (k:Nat)
  (g:Nat)
  (s0_0:List Int)
  (s0_1:Int)
  (s0_2:Int)
  (r1:ByteArray)
  (r2:ByteArray)
  (r3:Int)
  (r4:Int)
  (w0:World)
  (w:World)
  (HI0:Aside0 (IsS57 w0 w g s0_0 s0_1 s0_2))
  (HK:Aside0 (KeepBut w w g none))
  (HL:Aside0 (w0.heap.size ≤ w.heap.size))
  (HW0:Aside0 (w0.heap.size ≤ w.heap.size))
  (HB:Aside0 (Below w0.heap.size w0 w))
  (t213:Int)
  (t214:Int)
  (t215:Int)
  (A2:Aside0 (spec_l01Next.f s0_0 s0_1 s0_2 4 = some (t213,t214,t215)))
  (HC3:Aside0
    ((if t213 = 0 then
      (spec_l02Star1.f k s0_0 t214 t215).bind fun bt216 =>
       j2 k s0_0 bt216.snd.snd.fst bt216.snd.snd.snd bt216.fst bt216.snd.fst
     else
      if t213 = 1 then
       (spec_l01Draw.f k s0_0 t214 t215).bind fun bt220 =>
        (spec_l01Draw.f k s0_0 bt220.snd.snd.fst bt220.snd.snd.snd).bind fun bt225 =>
         (spec_l02Itinerary.f k bt225.fst bt225.snd.fst bt220.fst bt220.snd.fst).bind fun bt229 =>
          if bt229.snd.snd = true then j2 k s0_0 bt225.snd.snd.fst bt225.snd.snd.snd bt229.fst bt229.snd.fst
          else
           (spec_l02Star1.f k s0_0 bt225.snd.snd.fst bt225.snd.snd.snd).bind fun bt233 =>
            j2 k s0_0 bt233.snd.snd.fst bt233.snd.snd.snd bt233.fst bt233.snd.fst
      else
       if t213 = 2 then
        (spec_l01Draw.f k s0_0 t214 t215).bind fun bt237 =>
         (spec_l02Itinerary.f k bt237.fst bt237.snd.fst bt237.fst bt237.snd.fst).bind fun bt242 =>
          if bt242.snd.snd = true then j2 k s0_0 bt237.snd.snd.fst bt237.snd.snd.snd bt242.fst bt242.snd.fst
          else
           (spec_l02Star1.f k s0_0 bt237.snd.snd.fst bt237.snd.snd.snd).bind fun bt246 =>
            j2 k s0_0 bt246.snd.snd.fst bt246.snd.snd.snd bt246.fst bt246.snd.fst
       else
        (some [{ data:=#[48] },{ data:=#[49] },{ data:=#[42] }]).bind fun y250 =>
         (spec_l01Next.f s0_0 t214 t215 3).bind fun bt253 =>
          if 0 ≤ bt253.fst then
           if bt253.fst < ↑y250.length then
            (spec_l01Next.f s0_0 bt253.snd.fst bt253.snd.snd 4).bind fun bt257 =>
             l0 k { data:=#[] } (rdOf ByteArray.empty y250 bt253.fst) bt257.fst s0_0 bt257.snd.fst
              bt257.snd.snd
           else none
          else none) =
     some (r1,r2,r3,r4))) :
  Calls Try.prog 17 #[Value.pointer (some { block:=g,off:=0 })] w fun e w' =>
    e = Ending.returned (Value.agg #[Value.string r1,Value.string r2]) ∧
     IsS57 w0 w' g s0_0 r3 r4 ∧ Below w0.heap.size w0 w' ∧ KeepBut w w' g none:=by
 have hu25:=Try.underlying25
 have hu59:=Try.underlying59
 go_enter Try.func17,Try.ntmps17
 go_upto_block 0 with (first|((with_reducible refine gate_dst (N:=2) rfl ?_);refine box_event ?hg (N:=2) ?hd (cs:=#[.string ⟨#[]⟩,.string ⟨#[]⟩]) (t:=25) ?hr ?_;(case hd=>rfl);(case hg=>rfl);(case hr=>first|(go_simp;done)|(go_simp;rfl));intro gb211 hg w4 hbox hb;have n0_:=aM (IsS57.below (by repeat (first|(with_reducible first|exact HI0.out|apply iA|apply iN|apply iD|apply IsS57.set_1|apply IsS57.set_2)|exact HI0.out)) hb);have n1_:=aM (KeepBut.trans (by repeat (first|(with_reducible first|exact HK.out|apply kS|apply kN|apply kD|apply kA)|exact HK.out)) (KeepBut.of_below hb g none) (.inl rfl));have n2_:=aM (below_step (by repeat (first|(with_reducible first|exact HB.out|apply zA|apply zN|apply zD|refine zS ?_ (IsS57.ge HI0.out))|exact HB.out)) hb);have n3_:=aM (hbox);have n4_:=aM ((by rw [hg];exact (keep_size (w:=w) (g:=g) (row:=none) (by repeat (first|(with_reducible first|exact HK.out|apply kS|apply kN|apply kD|apply kA)|exact HK.out))):w.heap.size ≤ gb211));have n5_:=aM ((Nat.le_trans HW0.out (by rw [hg];exact (keep_size (w:=w) (g:=g) (row:=none) (by repeat (first|(with_reducible first|exact HK.out|apply kS|apply kN|apply kD|apply kA)|exact HK.out))):w.heap.size ≤ gb211):w0.heap.size ≤ gb211));have n6_:=aM ((by rw [hg];exact Nat.ne_of_lt (IsS57.lt (show IsS57 w0 _ g s0_0 s0_1 s0_2 from by repeat (first|(with_reducible first|exact HI0.out|apply iA|apply iN|apply iD|apply IsS57.set_1|apply IsS57.set_2)|exact HI0.out))):g ≠ gb211));have n7_:=aM ((by rw [hg];exact Nat.ne_of_gt (IsS57.lt (show IsS57 w0 _ g s0_0 s0_1 s0_2 from by repeat (first|(with_reducible first|exact HI0.out|apply iA|apply iN|apply iD|apply IsS57.set_1|apply IsS57.set_2)|exact HI0.out))):gb211 ≠ g));clear HI0;clear HK;clear HB;have HI0:=n0_;have HK:=n1_;have HB:=n2_;have BK211:=n3_;have GW211:=n4_;have GE211:=n5_;have NB0_211:=n6_;have NB211_0:=n7_;clear n0_ n1_ n2_ n3_ n4_ n5_ n6_ n7_;clear hb hbox hg)|((with_reducible refine gate_dst (N:=3) rfl ?_);refine box_event ?hg (N:=3) ?hd (cs:=#[.string ⟨#[]⟩,.string ⟨#[]⟩]) (t:=25) ?hr ?_;(case hd=>rfl);(case hg=>rfl);(case hr=>first|(go_simp;done)|(go_simp;rfl));intro gb212 hg w5 hbox hb;have n0_:=aM (IsS57.below (by repeat (first|(with_reducible first|exact HI0.out|apply iA|apply iN|apply iD|apply IsS57.set_1|apply IsS57.set_2|refine IsS57.far ?_ NB0_211.out _)|exact HI0.out)) hb);have n1_:=aM (blk_below (g:=gb211) (o:=.cells #[.string ⟨#[]⟩,.string ⟨#[]⟩] 25 (0,0)) (by (with_reducible repeat (first|refine yN ?_ _|refine yD ?_|refine yA ?_ _));exact BK211.out) hb);have n2_:=aM (KeepBut.trans (by repeat (first|(with_reducible first|exact HK.out|apply kS|apply kN|apply kD|apply kA|refine kF ?_ GW211.out _)|exact HK.out)) (KeepBut.of_below hb g none) (.inl rfl));have n3_:=aM (below_step (by repeat (first|(with_reducible first|exact HB.out|apply zA|apply zN|apply zD|refine zS ?_ (IsS57.ge HI0.out)|refine zS ?_ GE211.out)|exact HB.out)) hb);have n4_:=aM (hbox);have n5_:=aM ((by rw [hg];exact (keep_size (w:=w) (g:=g) (row:=none) (by repeat (first|(with_reducible first|exact HK.out|apply kS|apply kN|apply kD|apply kA|refine kF ?_ GW211.out _)|exact HK.out))):w.heap.size ≤ gb212));have n6_:=aM ((Nat.le_trans HW0.out (by rw [hg];exact (keep_size (w:=w) (g:=g) (row:=none) (by repeat (first|(with_reducible first|exact HK.out|apply kS|apply kN|apply kD|apply kA|refine kF ?_ GW211.out _)|exact HK.out))):w.heap.size ≤ gb212):w0.heap.size ≤ gb212));have n7_:=aM ((by rw [hg];exact Nat.ne_of_lt (blk_lt (g:=gb211) (o:=.cells #[.string ⟨#[]⟩,.string ⟨#[]⟩] 25 (0,0)) (by (with_reducible repeat (first|refine yN ?_ _|refine yD ?_|refine yA ?_ _));exact BK211.out)):gb211 ≠ gb212));have n8_:=aM ((by rw [hg];exact Nat.ne_of_gt (blk_lt (g:=gb211) (o:=.cells #[.string ⟨#[]⟩,.string ⟨#[]⟩] 25 (0,0)) (by (with_reducible repeat (first|refine yN ?_ _|refine yD ?_|refine yA ?_ _));exact BK211.out)):gb212 ≠ gb211));have n9_:=aM ((by rw [hg];exact Nat.ne_of_lt (IsS57.lt (show IsS57 w0 _ g s0_0 s0_1 s0_2 from by repeat (first|(with_reducible first|exact HI0.out|apply iA|apply iN|apply iD|apply IsS57.set_1|apply IsS57.set_2|refine IsS57.far ?_ NB0_211.out _)|exact HI0.out))):g ≠ gb212));have n10_:=aM ((by rw [hg];exact Nat.ne_of_gt (IsS57.lt (show IsS57 w0 _ g s0_0 s0_1 s0_2 from by repeat (first|(with_reducible first|exact HI0.out|apply iA|apply iN|apply iD|apply IsS57.set_1|apply IsS57.set_2|refine IsS57.far ?_ NB0_211.out _)|exact HI0.out))):gb212 ≠ g));clear HI0;clear BK211;clear HK;clear HB;have HI0:=n0_;have BK211:=n1_;have HK:=n2_;have HB:=n3_;have BK212:=n4_;have GW212:=n5_;have GE212:=n6_;have NB211_212:=n7_;have NB212_211:=n8_;have NB0_212:=n9_;have NB212_0:=n10_;clear n0_ n1_ n2_ n3_ n4_ n5_ n6_ n7_ n8_ n9_ n10_;clear hb hbox hg;have hnb6:=NB212_211.out;have hnc6:=NB211_212.out;have hnb7:=NB212_0.out;have hnc7:=NB0_212.out;have hcz8_0:w5.cell? ⟨gb212,0,none⟩ = some (.string ⟨#[]⟩):=(blk_cell BK212.out 0).trans rfl;have hcz8_1:w5.cell? ⟨gb212,1,none⟩ = some (.string ⟨#[]⟩):=(blk_cell BK212.out 1).trans rfl;have hfz8_0:=blk_frozen BK212.out 0;have hfz8_1:=blk_frozen BK212.out 1)|((with_reducible refine gate_callee (f:=18) rfl ?_);refine goesL_ (some 16) rfl rfl Try.func18 (by kernel_rfl) rfl #[.pointer (some ⟨g,0,none⟩),.int .i64 4] rfl (by (try simp only [sM,sC,sN]);first|done|rfl|(simp only [List.length_drop,List.length_take];rfl)) ?_;(with_reducible refine (spec_l01Next.calls g s0_0 s0_1 s0_2 4 t213 t214 t215 w0 _ ?side1 ?side2 A2.out).mono ?_);(case side1=>repeat (first|(with_reducible first|exact HI0.out|apply iA|apply iN|apply iD|apply IsS57.set_1|apply IsS57.set_2|refine IsS57.far ?_ NB0_211.out _|refine IsS57.far ?_ NB0_212.out _)|exact HI0.out));(case side2=>repeat (first|(with_reducible first|exact HB.out|apply zA|apply zN|apply zD|refine zS ?_ (IsS57.ge HI0.out)|refine zS ?_ GE211.out|refine zS ?_ GE212.out)|exact HB.out));rintro e w9 ⟨rfl,hi,hb,hk⟩;refine ⟨_,rfl,?_⟩;replace BK211:=aM (KeepBut.blk hk (g':=gb211) (o:=.cells #[.string ⟨#[]⟩,.string ⟨#[]⟩] 25 (0,0)) (by (with_reducible repeat (first|refine yN ?_ _|refine yD ?_|refine yA ?_ _));refine blk_far ?_ NB211_212.out _;(with_reducible repeat (first|refine yN ?_ _|refine yD ?_|refine yA ?_ _));refine blk_far ?_ NB211_212.out _;(with_reducible repeat (first|refine yN ?_ _|refine yD ?_|refine yA ?_ _));exact BK211.out) NB211_0.out (by simp));replace BK212:=aM (KeepBut.blk hk (g':=gb212) (o:=.cells #[.string ⟨#[]⟩,.string ⟨#[]⟩] 25 (0,0)) (by (with_reducible repeat (first|refine yN ?_ _|refine yD ?_|refine yA ?_ _));refine blk_put (cs:=#[.string ⟨#[]⟩,.string ⟨#[]⟩]) ?_ 1 _ rfl;(with_reducible repeat (first|refine yN ?_ _|refine yD ?_|refine yA ?_ _));refine blk_put (cs:=#[.string ⟨#[]⟩,.string ⟨#[]⟩]) ?_ 0 _ rfl;(with_reducible repeat (first|refine yN ?_ _|refine yD ?_|refine yA ?_ _));exact BK212.out) NB212_0.out (by simp));replace HK:=aM (KeepBut.trans (by repeat (first|(with_reducible first|exact HK.out|apply kS|apply kN|apply kD|apply kA|refine kF ?_ GW211.out _|refine kF ?_ GW212.out _)|exact HK.out)) hk (.inl rfl));replace HB:=aM (hb);replace HI0:=aM (hi);(try clear hb);(try clear hb2);(try clear hk);(try clear hi)))
 (try simp only [Act.put,sI,sZ,sS])
 go_cut [] (fun wc=>∃ (kq:Nat) (x1001_2:Int) (x1002_2:Int) (x213000_2:ByteArray) (x213001_2:ByteArray),Aside0 (spec_l02Draw.j2 kq s0_0 x1001_2 x1002_2 x213000_2 x213001_2 = some (r1,r2,r3,r4)) ∧ Aside0 (kq ≤ k) ∧ Aside0 (wc.heap[gb211]? = some (.cells #[.string ⟨#[]⟩,.string ⟨#[]⟩] 25 (0,0))) ∧ Aside0 (wc.heap[gb212]? = some (.cells #[.string x213000_2,.string x213001_2] 25 (0,0))) ∧ Aside0 (IsS57 w0 wc g s0_0 x1001_2 x1002_2) ∧ Aside0 (KeepBut w wc g none) ∧ Aside0 (Below w0.heap.size w0 wc))
 case first =>
  have H:=HC3.out
  clear HC3
  by_cases c10:t213 = 0
  ·rw [if_pos c10] at H
   have c10b0:(t213 == 0) = true:=beq_iff_eq.mpr c10
   have c10b1:(t213 != 0) = false:=bne_eq_false_iff_eq.mpr c10
   clear c10
   (first|rw [c10b0]|(simp only [i64_w,i32_w];rw [c10b0])|skip)
   replace H:=Option.bind_eq_some_iff.mp H
   obtain ⟨⟨t216,t217,t218,t219⟩,A110,H⟩:=H
   replace H:(spec_l02Draw.j2 k s0_0 t218 t219 t216 t217) = some (r1,r2,r3,r4):=H
   have A11:=aM A110
   clear A110
   have H':=aM H
   clear H
   go_wp2_with (first|((with_reducible refine gate_callee (f:=32) rfl ?_);refine goesL_ (some 54) rfl rfl Try.func32 (by kernel_rfl) rfl #[.pointer (some ⟨g,0,none⟩)] rfl (by (try simp only [sM,sC,sN]);first|done|rfl|(simp only [List.length_drop,List.length_take];rfl)) ?_;(with_reducible refine (spec_l02Star1.calls k g s0_0 t214 t215 t216 t217 t218 t219 w0 _ ?side1 ?side2 A11.out).mono ?_);(case side1=>repeat (first|(with_reducible first|exact HI0.out|apply iA|apply iN|apply iD|apply IsS57.set_1|apply IsS57.set_2|refine IsS57.far ?_ NB0_211.out _|refine IsS57.far ?_ NB0_212.out _)|exact HI0.out));(case side2=>repeat (first|(with_reducible first|exact HB.out|apply zA|apply zN|apply zD|refine zS ?_ (IsS57.ge HI0.out)|refine zS ?_ GE211.out|refine zS ?_ GE212.out)|exact HB.out));rintro e w12 ⟨rfl,hi,hb,hk⟩;refine ⟨_,rfl,?_⟩;replace BK211:=aM (KeepBut.blk hk (g':=gb211) (o:=.cells #[.string ⟨#[]⟩,.string ⟨#[]⟩] 25 (0,0)) BK211.out NB211_0.out (by simp));replace BK212:=aM (KeepBut.blk hk (g':=gb212) (o:=.cells #[.string ⟨#[]⟩,.string ⟨#[]⟩] 25 (0,0)) BK212.out NB212_0.out (by simp));replace HK:=aM (KeepBut.trans HK.out hk (.inl rfl));replace HB:=aM (hb);replace HI0:=aM (hi);(try clear hb);(try clear hb2);(try clear hk);(try clear hi);have hnb13:=NB212_211.out;have hnc13:=NB211_212.out;have hnb14:=NB212_0.out;have hnc14:=NB0_212.out;have hcz15_0:w12.cell? ⟨gb212,0,none⟩ = some (.string ⟨#[]⟩):=(blk_cell BK212.out 0).trans rfl;have hcz15_1:w12.cell? ⟨gb212,1,none⟩ = some (.string ⟨#[]⟩):=(blk_cell BK212.out 1).trans rfl;have hfz15_0:=blk_frozen BK212.out 0;have hfz15_1:=blk_frozen BK212.out 1))
   go_meet
   case rel=>exact ⟨_,(t218),(t219),(t216),(t217),H',⟨by first|omega|exact Nat.le_refl _⟩,⟨by (with_reducible repeat (first|refine yN ?_ _|refine yD ?_|refine yA ?_ _));refine blk_far ?_ NB211_212.out _;(with_reducible repeat (first|refine yN ?_ _|refine yD ?_|refine yA ?_ _));refine blk_far ?_ NB211_212.out _;(with_reducible repeat (first|refine yN ?_ _|refine yD ?_|refine yA ?_ _));exact BK211.out⟩,⟨by (with_reducible repeat (first|refine yN ?_ _|refine yD ?_|refine yA ?_ _));refine blk_put (cs:=#[.string t216,.string ⟨#[]⟩]) ?_ 1 _ rfl;(with_reducible repeat (first|refine yN ?_ _|refine yD ?_|refine yA ?_ _));refine blk_put (cs:=#[.string ⟨#[]⟩,.string ⟨#[]⟩]) ?_ 0 _ rfl;(with_reducible repeat (first|refine yN ?_ _|refine yD ?_|refine yA ?_ _));exact BK212.out⟩,⟨by repeat (first|(with_reducible first|exact HI0.out|apply iA|apply iN|apply iD|apply IsS57.set_1|apply IsS57.set_2|refine IsS57.far ?_ NB0_211.out _|refine IsS57.far ?_ NB0_212.out _)|exact HI0.out)⟩,⟨by repeat (first|(with_reducible first|exact HK.out|apply kS|apply kN|apply kD|apply kA|refine kF ?_ GW211.out _|refine kF ?_ GW212.out _)|exact HK.out)⟩,⟨by repeat (first|(with_reducible first|exact HB.out|apply zA|apply zN|apply zD|refine zS ?_ (IsS57.ge HI0.out)|refine zS ?_ GE211.out|refine zS ?_ GE212.out)|exact HB.out)⟩⟩
  ·rw [if_neg c10] at H
   have c10b0:(t213 == 0) = false:=beq_eq_false_iff_ne.mpr c10
   have c10b1:(t213 != 0) = true:=bne_iff_ne.mpr c10
   (first|rw [c10b0]|(simp only [i64_w,i32_w];rw [c10b0])|skip)
   by_cases c16:t213 = 1
   ·rw [if_pos c16] at H
    have c16b0:(t213 == 1) = true:=beq_iff_eq.mpr c16
    have c16b1:(t213 != 1) = false:=bne_eq_false_iff_eq.mpr c16
    clear c16
    replace H:=Option.bind_eq_some_iff.mp H
    obtain ⟨⟨t220,t221,t222,t223⟩,A170,H⟩:=H
    replace H:((spec_l01Draw.f k s0_0 t222 t223).bind fun bt225=>((spec_l02Itinerary.f k bt225.1 bt225.2.1 t220 t221).bind fun bt229=>(if bt229.2.2 = true then (spec_l02Draw.j2 k s0_0 bt225.2.2.1 bt225.2.2.2 bt229.1 bt229.2.1) else ((spec_l02Star1.f k s0_0 bt225.2.2.1 bt225.2.2.2).bind fun bt233=>(spec_l02Draw.j2 k s0_0 bt233.2.2.1 bt233.2.2.2 bt233.1 bt233.2.1))))) = some (r1,r2,r3,r4):=H
    have A17:=aM A170
    clear A170
    replace H:=Option.bind_eq_some_iff.mp H
    obtain ⟨⟨t225,t226,t227,t228⟩,A180,H⟩:=H
    replace H:((spec_l02Itinerary.f k t225 t226 t220 t221).bind fun bt229=>(if bt229.2.2 = true then (spec_l02Draw.j2 k s0_0 t227 t228 bt229.1 bt229.2.1) else ((spec_l02Star1.f k s0_0 t227 t228).bind fun bt233=>(spec_l02Draw.j2 k s0_0 bt233.2.2.1 bt233.2.2.2 bt233.1 bt233.2.1)))) = some (r1,r2,r3,r4):=H
    have A18:=aM A180
    clear A180
    replace H:=Option.bind_eq_some_iff.mp H
    obtain ⟨⟨t229,t230,t231⟩,A190,H⟩:=H
    replace H:(if t231 = true then (spec_l02Draw.j2 k s0_0 t227 t228 t229 t230) else ((spec_l02Star1.f k s0_0 t227 t228).bind fun bt233=>(spec_l02Draw.j2 k s0_0 bt233.2.2.1 bt233.2.2.2 bt233.1 bt233.2.1))) = some (r1,r2,r3,r4):=H
    have A19:=aM A190
    clear A190
    by_cases c20:t231 = true
    ·subst c20
     have H1:(spec_l02Draw.j2 k s0_0 t227 t228 t229 t230) = some (r1,r2,r3,r4):=by rw [if_pos rfl] at H;exact H
     clear H
     have H:=H1
     clear H1
     have H':=aM H
     clear H
     try go_wp2_with (first|((with_reducible refine gate_callee (f:=33) rfl ?_);refine goesL_ (some 58) rfl rfl Try.func33 (by kernel_rfl) rfl #[.pointer (some ⟨g,0,none⟩)] rfl (by (try simp only [sM,sC,sN]);first|done|rfl|(simp only [List.length_drop,List.length_take];rfl)) ?_;(with_reducible refine (spec_l01Draw.calls k g s0_0 t214 t215 t220 t221 t222 t223 w0 _ ?side1 ?side2 A17.out).mono ?_);(case side1=>repeat (first|(with_reducible first|exact HI0.out|apply iA|apply iN|apply iD|apply IsS57.set_1|apply IsS57.set_2|refine IsS57.far ?_ NB0_211.out _|refine IsS57.far ?_ NB0_212.out _)|exact HI0.out));(case side2=>repeat (first|(with_reducible first|exact HB.out|apply zA|apply zN|apply zD|refine zS ?_ (IsS57.ge HI0.out)|refine zS ?_ GE211.out|refine zS ?_ GE212.out)|exact HB.out));rintro e w21 ⟨rfl,hi,hb,hk⟩;refine ⟨_,rfl,?_⟩;replace BK211:=aM (KeepBut.blk hk (g':=gb211) (o:=.cells #[.string ⟨#[]⟩,.string ⟨#[]⟩] 25 (0,0)) BK211.out NB211_0.out (by simp));replace BK212:=aM (KeepBut.blk hk (g':=gb212) (o:=.cells #[.string ⟨#[]⟩,.string ⟨#[]⟩] 25 (0,0)) BK212.out NB212_0.out (by simp));replace HK:=aM (KeepBut.trans HK.out hk (.inl rfl));replace HB:=aM (hb);replace HI0:=aM (hi);(try clear hb);(try clear hb2);(try clear hk);(try clear hi))|((with_reducible refine gate_dst (N:=4) rfl ?_);refine box_event ?hg (N:=4) ?hd (cs:=#[.int .i64 0,.int .i64 0]) (t:=59) ?hr ?_;(case hd=>rfl);(case hg=>rfl);(case hr=>first|(go_simp;done)|(go_simp;rfl));intro gb224 hg w22 hbox hb;have n0_:=aM (IsS57.below HI0.out hb);have n1_:=aM (blk_below (g:=gb211) (o:=.cells #[.string ⟨#[]⟩,.string ⟨#[]⟩] 25 (0,0)) BK211.out hb);have n2_:=aM (blk_below (g:=gb212) (o:=.cells #[.string ⟨#[]⟩,.string ⟨#[]⟩] 25 (0,0)) BK212.out hb);have n3_:=aM (KeepBut.trans HK.out (KeepBut.of_below hb g none) (.inl rfl));have n4_:=aM (below_step HB.out hb);have n5_:=aM (hbox);have n6_:=aM ((by rw [hg];exact (keep_size (w:=w) (g:=g) (row:=none) HK.out):w.heap.size ≤ gb224));have n7_:=aM ((Nat.le_trans HW0.out (by rw [hg];exact (keep_size (w:=w) (g:=g) (row:=none) HK.out):w.heap.size ≤ gb224):w0.heap.size ≤ gb224));have n8_:=aM ((by rw [hg];exact Nat.ne_of_lt (blk_lt (g:=gb211) (o:=.cells #[.string ⟨#[]⟩,.string ⟨#[]⟩] 25 (0,0)) BK211.out):gb211 ≠ gb224));have n9_:=aM ((by rw [hg];exact Nat.ne_of_gt (blk_lt (g:=gb211) (o:=.cells #[.string ⟨#[]⟩,.string ⟨#[]⟩] 25 (0,0)) BK211.out):gb224 ≠ gb211));have n10_:=aM ((by rw [hg];exact Nat.ne_of_lt (blk_lt (g:=gb212) (o:=.cells #[.string ⟨#[]⟩,.string ⟨#[]⟩] 25 (0,0)) BK212.out):gb212 ≠ gb224));have n11_:=aM ((by rw [hg];exact Nat.ne_of_gt (blk_lt (g:=gb212) (o:=.cells #[.string ⟨#[]⟩,.string ⟨#[]⟩] 25 (0,0)) BK212.out):gb224 ≠ gb212));have n12_:=aM ((by rw [hg];exact Nat.ne_of_lt (IsS57.lt (show IsS57 w0 _ g s0_0 t222 t223 from HI0.out)):g ≠ gb224));have n13_:=aM ((by rw [hg];exact Nat.ne_of_gt (IsS57.lt (show IsS57 w0 _ g s0_0 t222 t223 from HI0.out)):gb224 ≠ g));clear HI0;clear BK211;clear BK212;clear HK;clear HB;have HI0:=n0_;have BK211:=n1_;have BK212:=n2_;have HK:=n3_;have HB:=n4_;have BK224:=n5_;have GW224:=n6_;have GE224:=n7_;have NB211_224:=n8_;have NB224_211:=n9_;have NB212_224:=n10_;have NB224_212:=n11_;have NB0_224:=n12_;have NB224_0:=n13_;clear n0_ n1_ n2_ n3_ n4_ n5_ n6_ n7_ n8_ n9_ n10_ n11_ n12_ n13_;clear hb hbox hg;have hnb23:=NB224_211.out;have hnc23:=NB211_224.out;have hnb24:=NB224_212.out;have hnc24:=NB212_224.out;have hnb25:=NB224_0.out;have hnc25:=NB0_224.out;have hcz26_0:w22.cell? ⟨gb224,0,none⟩ = some (.int .i64 0):=(blk_cell BK224.out 0).trans rfl;have hcz26_1:w22.cell? ⟨gb224,1,none⟩ = some (.int .i64 0):=(blk_cell BK224.out 1).trans rfl;have hfz26_0:=blk_frozen BK224.out 0;have hfz26_1:=blk_frozen BK224.out 1))
     have n0_:Aside0 (((w22.setCell ⟨gb224,0,none⟩ (.int .i64 t220)).setCell ⟨gb224,1,none⟩ (.int .i64 t221)).heap[gb211]? = some (.cells #[.string ⟨#[]⟩,.string ⟨#[]⟩] 25 (0,0))):=⟨by (with_reducible repeat (first|refine yN ?_ _|refine yD ?_|refine yA ?_ _));refine blk_far ?_ NB211_224.out _;(with_reducible repeat (first|refine yN ?_ _|refine yD ?_|refine yA ?_ _));refine blk_far ?_ NB211_224.out _;(with_reducible repeat (first|refine yN ?_ _|refine yD ?_|refine yA ?_ _));exact BK211.out⟩
     have n1_:Aside0 (((w22.setCell ⟨gb224,0,none⟩ (.int .i64 t220)).setCell ⟨gb224,1,none⟩ (.int .i64 t221)).heap[gb212]? = some (.cells #[.string ⟨#[]⟩,.string ⟨#[]⟩] 25 (0,0))):=⟨by (with_reducible repeat (first|refine yN ?_ _|refine yD ?_|refine yA ?_ _));refine blk_far ?_ NB212_224.out _;(with_reducible repeat (first|refine yN ?_ _|refine yD ?_|refine yA ?_ _));refine blk_far ?_ NB212_224.out _;(with_reducible repeat (first|refine yN ?_ _|refine yD ?_|refine yA ?_ _));exact BK212.out⟩
     have n2_:Aside0 (((w22.setCell ⟨gb224,0,none⟩ (.int .i64 t220)).setCell ⟨gb224,1,none⟩ (.int .i64 t221)).heap[gb224]? = some (.cells #[.int .i64 t220,.int .i64 t221] 59 (0,0))):=⟨by (with_reducible repeat (first|refine yN ?_ _|refine yD ?_|refine yA ?_ _));refine blk_put (cs:=#[.int .i64 t220,.int .i64 0]) ?_ 1 _ rfl;(with_reducible repeat (first|refine yN ?_ _|refine yD ?_|refine yA ?_ _));refine blk_put (cs:=#[.int .i64 0,.int .i64 0]) ?_ 0 _ rfl;(with_reducible repeat (first|refine yN ?_ _|refine yD ?_|refine yA ?_ _));exact BK224.out⟩
     have n3_:Aside0 (IsS57 w0 ((w22.setCell ⟨gb224,0,none⟩ (.int .i64 t220)).setCell ⟨gb224,1,none⟩ (.int .i64 t221)) g s0_0 t222 t223):=⟨by repeat (first|(with_reducible first|exact HI0.out|apply iA|apply iN|apply iD|apply IsS57.set_1|apply IsS57.set_2|refine IsS57.far ?_ NB0_211.out _|refine IsS57.far ?_ NB0_212.out _|refine IsS57.far ?_ NB0_224.out _)|exact HI0.out)⟩
     have n4_:Aside0 (KeepBut w ((w22.setCell ⟨gb224,0,none⟩ (.int .i64 t220)).setCell ⟨gb224,1,none⟩ (.int .i64 t221)) g none):=⟨by repeat (first|(with_reducible first|exact HK.out|apply kS|apply kN|apply kD|apply kA|refine kF ?_ GW211.out _|refine kF ?_ GW212.out _|refine kF ?_ GW224.out _)|exact HK.out)⟩
     have n5_:Aside0 (Below w0.heap.size w0 ((w22.setCell ⟨gb224,0,none⟩ (.int .i64 t220)).setCell ⟨gb224,1,none⟩ (.int .i64 t221))):=⟨by repeat (first|(with_reducible first|exact HB.out|apply zA|apply zN|apply zD|refine zS ?_ (IsS57.ge HI0.out)|refine zS ?_ GE211.out|refine zS ?_ GE212.out|refine zS ?_ GE224.out)|exact HB.out)⟩
     (try clear BK211)
     (try clear BK212)
     (try clear BK224)
     (try clear HI0)
     (try clear HK)
     (try clear HB)
     generalize ((w22.setCell ⟨gb224,0,none⟩ (.int .i64 t220)).setCell ⟨gb224,1,none⟩ (.int .i64 t221)) = w27 at n0_ n1_ n2_ n3_ n4_ n5_ ⊢
     have BK211:=n0_
     have BK212:=n1_
     have BK224:=n2_
     have HI0:=n3_
     have HK:=n4_
     have HB:=n5_
     clear n0_ n1_ n2_ n3_ n4_ n5_
     replace BK211:=aM (yD BK211.out)
     replace BK212:=aM (yD BK212.out)
     replace BK224:=aM (yD BK224.out)
     replace HI0:=aM (IsS57.drew HI0.out)
     replace HK:=aM (kD HK.out)
     replace HB:=aM (zD HB.out)
     refine start_ (n:=10) (S:=fun w'=>w'.cell? ⟨gb224,0,none⟩ = some (.int .i64 t220) ∧ w'.cell? ⟨gb224,1,none⟩ = some (.int .i64 t221)) (ds:=[]) #[fF,fF,fF,fF,fF,fF,fF,fF,fF,fF] (by kernel_rfl) rfl rfl ⟨(blk_cell BK224.out 0).trans rfl,(blk_cell BK224.out 1).trans rfl⟩ (fun hHeld=>?_);refine with_tabW spec_l02Draw.tab17 spec_l02Draw.bits17 (fun HT_ HW_=>?_)
     generalize w27.drew = w28 at BK211 BK212 BK224 HI0 HK HB hHeld ⊢
     refine pure_ (i:=0) (N:=some 60) (v:=?_) (a':=?_) #[tT,fF,fF,fF,fF,fF,fF,fF,fF,fF] rfl rfl (any_of HT_.out (by kernel_rfl)) (fun _ _ _ h=>h) (Or.inl ⟨by rfl,?_⟩) ?_ ?_
     rotate_left
     ·intro w'
      go_simp
      with_reducible rfl
     rotate_left
     ·simp only [Act.put,sI,sZ,sS,i64_w,i32_w]
      rfl
     refine take_ (i:=2) (N:=some 62) (v:=?_) (a':=?_) #[tT,fF,tT,fF,fF,fF,fF,fF,fF,fF] rfl rfl (take_ofW HT_.out HW_.out (by kernel_rfl)) (fun _ _ _ h=>h) (Or.inl ⟨by rfl,?_⟩) hHeld ?_ ?_
     rotate_left
     ·rintro w' ⟨s0,s1⟩
      go_simp
      with_reducible rfl
     rotate_left
     ·simp only [Act.put,sI,sZ,sS,i64_w,i32_w]
      rfl
     refine join_ (σ:=Nat) 2 #[true,true,true,true,true,true,true,true,false,false] (fun s_=>[(61,.agg #[.int .i64 t225,.int .i64 t226]),(63,.tuple #[.agg #[.string t229,.string t230],.bool true]),(5,.pointer (some ⟨s_,0,none⟩)),(59,.tuple #[.agg #[.string t229,.string t230],.bool true]),(64,.agg #[.string t229,.string t230]),(65,.bool true)]) (fun s_ w'=>(w'.cell? ⟨gb224,0,none⟩ = some (.int .i64 t220) ∧ w'.cell? ⟨gb224,1,none⟩ = some (.int .i64 t221)) ∧ (w'.heap[gb211]? = some (.cells #[.string ⟨#[]⟩,.string ⟨#[]⟩] 25 (0,0))) ∧ (w'.heap[gb212]? = some (.cells #[.string ⟨#[]⟩,.string ⟨#[]⟩] 25 (0,0))) ∧ (w'.heap[gb224]? = some (.cells #[.int .i64 t220,.int .i64 t221] 59 (0,0))) ∧ (w'.heap[s_]? = some (.cells #[.string ⟨#[]⟩,.string ⟨#[]⟩] 25 (0,0))) ∧ (w.heap.size ≤ s_) ∧ (w0.heap.size ≤ s_) ∧ (g ≠ s_) ∧ (s_ ≠ g) ∧ (gb211 ≠ s_) ∧ (s_ ≠ gb211) ∧ (gb212 ≠ s_) ∧ (s_ ≠ gb212) ∧ (gb224 ≠ s_) ∧ (s_ ≠ gb224) ∧ (IsS57 w0 w' g s0_0 t227 t228) ∧ (KeepBut w w' g none) ∧ (Below w0.heap.size w0 w')) ?_ ?_
     rotate_left
     ·intro hCont
      refine two_ (i:=1) (j:=7) (Ni:=some 61) (Nj:=some 5) #[true,true,true,false,false,false,false,false,false,false] #[true,false,true,false,false,false,false,true,false,false] rfl rfl rfl rfl (two_of HT_.out (by kernel_rfl)) (by decide) (by decide) (fun K hK=>?_) (fun K hK=>?_)
      ·skip
       refine goes_ Try.func33 (by kernel_rfl) rfl #[.pointer (some ⟨g,0,none⟩)] (by rfl) rfl rfl (by (try simp only [sM,sC,sN]);first|done|rfl|(simp only [List.length_drop,List.length_take];rfl)) ?_
       with_reducible refine (spec_l01Draw.calls k g s0_0 t222 t223 t225 t226 t227 t228 w0 _ ?side1 ?side2 A18.out).mono ?_
       (case side1=>repeat (first|(with_reducible first|exact HI0.out|apply iA|apply iN|apply iD|apply IsS57.set_1|apply IsS57.set_2|refine IsS57.far ?_ NB0_211.out _|refine IsS57.far ?_ NB0_212.out _|refine IsS57.far ?_ NB0_224.out _)|exact HI0.out))
       (case side2=>repeat (first|(with_reducible first|exact HB.out|apply zA|apply zN|apply zD|refine zS ?_ (IsS57.ge HI0.out)|refine zS ?_ GE211.out|refine zS ?_ GE212.out|refine zS ?_ GE224.out)|exact HB.out))
       rintro e w29 ⟨rfl,hi,hb,hk⟩
       refine ⟨_,rfl,?_⟩
       replace BK211:=aM (KeepBut.blk hk (g':=gb211) (o:=.cells #[.string ⟨#[]⟩,.string ⟨#[]⟩] 25 (0,0)) BK211.out NB211_0.out (by simp))
       replace BK212:=aM (KeepBut.blk hk (g':=gb212) (o:=.cells #[.string ⟨#[]⟩,.string ⟨#[]⟩] 25 (0,0)) BK212.out NB212_0.out (by simp))
       replace BK224:=aM (KeepBut.blk hk (g':=gb224) (o:=.cells #[.int .i64 t220,.int .i64 t221] 59 (0,0)) BK224.out NB224_0.out (by simp))
       replace HK:=aM (KeepBut.trans HK.out hk (.inl rfl))
       replace HB:=aM (hb)
       replace HI0:=aM (hi)
       refine hK.out _ _ ⟨(blk_cell BK224.out 0).trans rfl,(blk_cell BK224.out 1).trans rfl⟩ (fun hHeld=>?_)
       clear hK K
       refine norm_ (a':=?_) ?_ ?_
       rotate_left
       ·show Act.put _ (some 61) _ = _
        simp only [Act.put,sI,sZ,sS,i64_w,i32_w]
        rfl
       refine two_ (i:=3) (j:=7) (Ni:=some 63) (Nj:=some 5) #[true,true,true,true,false,false,false,false,false,false] #[true,true,true,false,false,false,false,true,false,false] rfl rfl rfl rfl (two_of HT_.out (by kernel_rfl)) (by decide) (by decide) (fun K hK=>?_) (fun K hK=>?_)
       ·skip
        refine goes_ Try.func34 (by kernel_rfl) rfl #[.agg #[.int .i64 t225,.int .i64 t226],.agg #[.int .i64 t220,.int .i64 t221]] (by rfl) rfl rfl (by (try simp only [sM,sC,sN]);first|done|rfl|(simp only [List.length_drop,List.length_take];rfl)) ?_
        with_reducible refine (spec_l02Itinerary.calls k t225 t226 t220 t221 t229 t230 true _ A19.out).mono ?_
        rintro e w30 ⟨rfl,hb⟩
        refine ⟨_,rfl,?_⟩
        have n0_:=aM (IsS57.below HI0.out hb)
        have n1_:=aM (blk_below (g:=gb211) (o:=.cells #[.string ⟨#[]⟩,.string ⟨#[]⟩] 25 (0,0)) BK211.out hb)
        have n2_:=aM (blk_below (g:=gb212) (o:=.cells #[.string ⟨#[]⟩,.string ⟨#[]⟩] 25 (0,0)) BK212.out hb)
        have n3_:=aM (blk_below (g:=gb224) (o:=.cells #[.int .i64 t220,.int .i64 t221] 59 (0,0)) BK224.out hb)
        have n4_:=aM (KeepBut.trans HK.out (KeepBut.of_below hb g none) (.inl rfl))
        have n5_:=aM (below_step HB.out hb)
        clear HI0
        clear BK211
        clear BK212
        clear BK224
        clear HK
        clear HB
        have HI0:=n0_
        have BK211:=n1_
        have BK212:=n2_
        have BK224:=n3_
        have HK:=n4_
        have HB:=n5_
        clear n0_ n1_ n2_ n3_ n4_ n5_
        refine hK.out _ _ ⟨(blk_cell BK224.out 0).trans rfl,(blk_cell BK224.out 1).trans rfl⟩ (fun hHeld=>?_)
        clear hK K
        refine norm_ (a':=?_) ?_ ?_
        rotate_left
        ·show Act.put _ (some 63) _ = _
         simp only [Act.put,sI,sZ,sS,i64_w,i32_w]
         rfl
        refine pure_ (i:=4) (N:=some 59) (v:=?_) (a':=?_) #[tT,tT,tT,tT,tT,fF,fF,fF,fF,fF] rfl rfl (any_of HT_.out (by kernel_rfl)) (fun _ _ _ h=>h) (Or.inl ⟨by rfl,?_⟩) ?_ ?_
        rotate_left
        ·intro w'
         go_simp
         with_reducible rfl
        rotate_left
        ·simp only [Act.put,sI,sZ,sS,i64_w,i32_w]
         rfl
        refine pure_ (i:=5) (N:=some 64) (v:=?_) (a':=?_) #[tT,tT,tT,tT,tT,tT,fF,fF,fF,fF] rfl rfl (any_of HT_.out (by kernel_rfl)) (fun _ _ _ h=>h) (Or.inl ⟨by rfl,?_⟩) ?_ ?_
        rotate_left
        ·intro w'
         go_simp
         with_reducible rfl
        rotate_left
        ·simp only [Act.put,sI,sZ,sS,i64_w,i32_w]
         rfl
        refine pure_ (i:=6) (N:=some 65) (v:=?_) (a':=?_) #[tT,tT,tT,tT,tT,tT,tT,fF,fF,fF] rfl rfl (any_of HT_.out (by kernel_rfl)) (fun _ _ _ h=>h) (Or.inl ⟨by rfl,?_⟩) ?_ ?_
        rotate_left
        ·intro w'
         go_simp
         with_reducible rfl
        rotate_left
        ·simp only [Act.put,sI,sZ,sS,i64_w,i32_w]
         rfl
        refine one_ (i:=7) (N:=some 5) #[tT,tT,tT,tT,tT,tT,tT,tT,fF,fF] rfl rfl (one_of HT_.out (by kernel_rfl)) (by decide) (fun K hK=>?_)
        refine box_step ?hg (N:=5) ?hd (cs:=#[.string ⟨#[]⟩,.string ⟨#[]⟩]) (t:=25) ?hr ?_;(case hd=>rfl);(case hg=>rfl);(case hr=>first|(go_simp;done)|(go_simp;rfl))
        intro gb232 hg w31 hbox hb
        have n0_:=aM (IsS57.below HI0.out hb)
        have n1_:=aM (blk_below (g:=gb211) (o:=.cells #[.string ⟨#[]⟩,.string ⟨#[]⟩] 25 (0,0)) BK211.out hb)
        have n2_:=aM (blk_below (g:=gb212) (o:=.cells #[.string ⟨#[]⟩,.string ⟨#[]⟩] 25 (0,0)) BK212.out hb)
        have n3_:=aM (blk_below (g:=gb224) (o:=.cells #[.int .i64 t220,.int .i64 t221] 59 (0,0)) BK224.out hb)
        have n4_:=aM (KeepBut.trans HK.out (KeepBut.of_below hb g none) (.inl rfl))
        have n5_:=aM (below_step HB.out hb)
        have n6_:=aM (hbox)
        have n7_:=aM ((by rw [hg];exact (keep_size (w:=w) (g:=g) (row:=none) HK.out):w.heap.size ≤ gb232))
        have n8_:=aM ((Nat.le_trans HW0.out (by rw [hg];exact (keep_size (w:=w) (g:=g) (row:=none) HK.out):w.heap.size ≤ gb232):w0.heap.size ≤ gb232))
        have n9_:=aM ((by rw [hg];exact Nat.ne_of_lt (blk_lt (g:=gb211) (o:=.cells #[.string ⟨#[]⟩,.string ⟨#[]⟩] 25 (0,0)) BK211.out):gb211 ≠ gb232))
        have n10_:=aM ((by rw [hg];exact Nat.ne_of_gt (blk_lt (g:=gb211) (o:=.cells #[.string ⟨#[]⟩,.string ⟨#[]⟩] 25 (0,0)) BK211.out):gb232 ≠ gb211))
        have n11_:=aM ((by rw [hg];exact Nat.ne_of_lt (blk_lt (g:=gb212) (o:=.cells #[.string ⟨#[]⟩,.string ⟨#[]⟩] 25 (0,0)) BK212.out):gb212 ≠ gb232))
        have n12_:=aM ((by rw [hg];exact Nat.ne_of_gt (blk_lt (g:=gb212) (o:=.cells #[.string ⟨#[]⟩,.string ⟨#[]⟩] 25 (0,0)) BK212.out):gb232 ≠ gb212))
        have n13_:=aM ((by rw [hg];exact Nat.ne_of_lt (blk_lt (g:=gb224) (o:=.cells #[.int .i64 t220,.int .i64 t221] 59 (0,0)) BK224.out):gb224 ≠ gb232))
        have n14_:=aM ((by rw [hg];exact Nat.ne_of_gt (blk_lt (g:=gb224) (o:=.cells #[.int .i64 t220,.int .i64 t221] 59 (0,0)) BK224.out):gb232 ≠ gb224))
        have n15_:=aM ((by rw [hg];exact Nat.ne_of_lt (IsS57.lt (show IsS57 w0 _ g s0_0 t227 t228 from HI0.out)):g ≠ gb232))
        have n16_:=aM ((by rw [hg];exact Nat.ne_of_gt (IsS57.lt (show IsS57 w0 _ g s0_0 t227 t228 from HI0.out)):gb232 ≠ g))
        clear HI0
        clear BK211
        clear BK212
        clear BK224
        clear HK
        clear HB
        have HI0:=n0_
        have BK211:=n1_
        have BK212:=n2_
        have BK224:=n3_
        have HK:=n4_
        have HB:=n5_
        have BK232:=n6_
        have GW232:=n7_
        have GE232:=n8_
        have NB211_232:=n9_
        have NB232_211:=n10_
        have NB212_232:=n11_
        have NB232_212:=n12_
        have NB224_232:=n13_
        have NB232_224:=n14_
        have NB0_232:=n15_
        have NB232_0:=n16_
        clear n0_ n1_ n2_ n3_ n4_ n5_ n6_ n7_ n8_ n9_ n10_ n11_ n12_ n13_ n14_ n15_ n16_
        clear hb hbox hg
        refine hK.out _ _ ⟨(blk_cell BK224.out 0).trans rfl,(blk_cell BK224.out 1).trans rfl⟩ (fun hHeld=>?_)
        clear hK K
        refine norm_ (a':=?_) ?_ ?_
        rotate_left
        ·show Act.put _ (some 5) _ = _
         simp only [Act.put,sI,sZ,sS,i64_w,i32_w]
         rfl
        exact norm_ (by simp only [putAll,Act.put,sI,sZ,sS]) (hCont (gb232) _ ⟨hHeld,BK211.out,BK212.out,BK224.out,BK232.out,GW232.out,GE232.out,NB0_232.out,NB232_0.out,NB211_232.out,NB232_211.out,NB212_232.out,NB232_212.out,NB224_232.out,NB232_224.out,HI0.out,HK.out,HB.out⟩)
       ·skip
        refine box_step ?hg (N:=5) ?hd (cs:=#[.string ⟨#[]⟩,.string ⟨#[]⟩]) (t:=25) ?hr ?_;(case hd=>rfl);(case hg=>rfl);(case hr=>first|(go_simp;done)|(go_simp;rfl))
        intro gb232 hg w30 hbox hb
        have n0_:=aM (IsS57.below HI0.out hb)
        have n1_:=aM (blk_below (g:=gb211) (o:=.cells #[.string ⟨#[]⟩,.string ⟨#[]⟩] 25 (0,0)) BK211.out hb)
        have n2_:=aM (blk_below (g:=gb212) (o:=.cells #[.string ⟨#[]⟩,.string ⟨#[]⟩] 25 (0,0)) BK212.out hb)
        have n3_:=aM (blk_below (g:=gb224) (o:=.cells #[.int .i64 t220,.int .i64 t221] 59 (0,0)) BK224.out hb)
        have n4_:=aM (KeepBut.trans HK.out (KeepBut.of_below hb g none) (.inl rfl))
        have n5_:=aM (below_step HB.out hb)
        have n6_:=aM (hbox)
        have n7_:=aM ((by rw [hg];exact (keep_size (w:=w) (g:=g) (row:=none) HK.out):w.heap.size ≤ gb232))
        have n8_:=aM ((Nat.le_trans HW0.out (by rw [hg];exact (keep_size (w:=w) (g:=g) (row:=none) HK.out):w.heap.size ≤ gb232):w0.heap.size ≤ gb232))
        have n9_:=aM ((by rw [hg];exact Nat.ne_of_lt (blk_lt (g:=gb211) (o:=.cells #[.string ⟨#[]⟩,.string ⟨#[]⟩] 25 (0,0)) BK211.out):gb211 ≠ gb232))
        have n10_:=aM ((by rw [hg];exact Nat.ne_of_gt (blk_lt (g:=gb211) (o:=.cells #[.string ⟨#[]⟩,.string ⟨#[]⟩] 25 (0,0)) BK211.out):gb232 ≠ gb211))
        have n11_:=aM ((by rw [hg];exact Nat.ne_of_lt (blk_lt (g:=gb212) (o:=.cells #[.string ⟨#[]⟩,.string ⟨#[]⟩] 25 (0,0)) BK212.out):gb212 ≠ gb232))
        have n12_:=aM ((by rw [hg];exact Nat.ne_of_gt (blk_lt (g:=gb212) (o:=.cells #[.string ⟨#[]⟩,.string ⟨#[]⟩] 25 (0,0)) BK212.out):gb232 ≠ gb212))
        have n13_:=aM ((by rw [hg];exact Nat.ne_of_lt (blk_lt (g:=gb224) (o:=.cells #[.int .i64 t220,.int .i64 t221] 59 (0,0)) BK224.out):gb224 ≠ gb232))
        have n14_:=aM ((by rw [hg];exact Nat.ne_of_gt (blk_lt (g:=gb224) (o:=.cells #[.int .i64 t220,.int .i64 t221] 59 (0,0)) BK224.out):gb232 ≠ gb224))
        have n15_:=aM ((by rw [hg];exact Nat.ne_of_lt (IsS57.lt (show IsS57 w0 _ g s0_0 t227 t228 from HI0.out)):g ≠ gb232))
        have n16_:=aM ((by rw [hg];exact Nat.ne_of_gt (IsS57.lt (show IsS57 w0 _ g s0_0 t227 t228 from HI0.out)):gb232 ≠ g))
        clear HI0
        clear BK211
        clear BK212
        clear BK224
        clear HK
        clear HB
        have HI0:=n0_
        have BK211:=n1_
        have BK212:=n2_
        have BK224:=n3_
        have HK:=n4_
        have HB:=n5_
        have BK232:=n6_
        have GW232:=n7_
        have GE232:=n8_
        have NB211_232:=n9_
        have NB232_211:=n10_
        have NB212_232:=n11_
        have NB232_212:=n12_
        have NB224_232:=n13_
        have NB232_224:=n14_
        have NB0_232:=n15_
        have NB232_0:=n16_
        clear n0_ n1_ n2_ n3_ n4_ n5_ n6_ n7_ n8_ n9_ n10_ n11_ n12_ n13_ n14_ n15_ n16_
        clear hb hbox hg
        refine hK.out _ _ ⟨(blk_cell BK224.out 0).trans rfl,(blk_cell BK224.out 1).trans rfl⟩ (fun hHeld=>?_)
        clear hK K
        refine norm_ (a':=?_) ?_ ?_
        rotate_left
        ·show Act.put _ (some 5) _ = _
         simp only [Act.put,sI,sZ,sS,i64_w,i32_w]
         rfl
        refine one_ (i:=3) (N:=some 63) #[tT,tT,tT,tT,fF,fF,fF,tT,fF,fF] rfl rfl (one_of HT_.out (by kernel_rfl)) (by decide) (fun K hK=>?_)
        refine goes_ Try.func34 (by kernel_rfl) rfl #[.agg #[.int .i64 t225,.int .i64 t226],.agg #[.int .i64 t220,.int .i64 t221]] (by rfl) rfl rfl (by (try simp only [sM,sC,sN]);first|done|rfl|(simp only [List.length_drop,List.length_take];rfl)) ?_
        with_reducible refine (spec_l02Itinerary.calls k t225 t226 t220 t221 t229 t230 true _ A19.out).mono ?_
        rintro e w31 ⟨rfl,hb⟩
        refine ⟨_,rfl,?_⟩
        have n0_:=aM (IsS57.below HI0.out hb)
        have n1_:=aM (blk_below (g:=gb211) (o:=.cells #[.string ⟨#[]⟩,.string ⟨#[]⟩] 25 (0,0)) BK211.out hb)
        have n2_:=aM (blk_below (g:=gb212) (o:=.cells #[.string ⟨#[]⟩,.string ⟨#[]⟩] 25 (0,0)) BK212.out hb)
        have n3_:=aM (blk_below (g:=gb224) (o:=.cells #[.int .i64 t220,.int .i64 t221] 59 (0,0)) BK224.out hb)
        have n4_:=aM (blk_below (g:=gb232) (o:=.cells #[.string ⟨#[]⟩,.string ⟨#[]⟩] 25 (0,0)) BK232.out hb)
        have n5_:=aM (KeepBut.trans HK.out (KeepBut.of_below hb g none) (.inl rfl))
        have n6_:=aM (below_step HB.out hb)
        clear HI0
        clear BK211
        clear BK212
        clear BK224
        clear BK232
        clear HK
        clear HB
        have HI0:=n0_
        have BK211:=n1_
        have BK212:=n2_
        have BK224:=n3_
        have BK232:=n4_
        have HK:=n5_
        have HB:=n6_
        clear n0_ n1_ n2_ n3_ n4_ n5_ n6_
        refine hK.out _ _ ⟨(blk_cell BK224.out 0).trans rfl,(blk_cell BK224.out 1).trans rfl⟩ (fun hHeld=>?_)
        clear hK K
        refine norm_ (a':=?_) ?_ ?_
        rotate_left
        ·show Act.put _ (some 63) _ = _
         simp only [Act.put,sI,sZ,sS,i64_w,i32_w]
         rfl
        refine pure_ (i:=4) (N:=some 59) (v:=?_) (a':=?_) #[tT,tT,tT,tT,tT,fF,fF,tT,fF,fF] rfl rfl (any_of HT_.out (by kernel_rfl)) (fun _ _ _ h=>h) (Or.inl ⟨by rfl,?_⟩) ?_ ?_
        rotate_left
        ·intro w'
         go_simp
         with_reducible rfl
        rotate_left
        ·simp only [Act.put,sI,sZ,sS,i64_w,i32_w]
         rfl
        refine pure_ (i:=5) (N:=some 64) (v:=?_) (a':=?_) #[tT,tT,tT,tT,tT,tT,fF,tT,fF,fF] rfl rfl (any_of HT_.out (by kernel_rfl)) (fun _ _ _ h=>h) (Or.inl ⟨by rfl,?_⟩) ?_ ?_
        rotate_left
        ·intro w'
         go_simp
         with_reducible rfl
        rotate_left
        ·simp only [Act.put,sI,sZ,sS,i64_w,i32_w]
         rfl
        refine pure_ (i:=6) (N:=some 65) (v:=?_) (a':=?_) #[tT,tT,tT,tT,tT,tT,tT,tT,fF,fF] rfl rfl (any_of HT_.out (by kernel_rfl)) (fun _ _ _ h=>h) (Or.inl ⟨by rfl,?_⟩) ?_ ?_
        rotate_left
        ·intro w'
         go_simp
         with_reducible rfl
        rotate_left
        ·simp only [Act.put,sI,sZ,sS,i64_w,i32_w]
         rfl
        exact norm_ (by simp only [putAll,Act.put,sI,sZ,sS]) (hCont (gb232) _ ⟨hHeld,BK211.out,BK212.out,BK224.out,BK232.out,GW232.out,GE232.out,NB0_232.out,NB232_0.out,NB211_232.out,NB232_211.out,NB212_232.out,NB232_212.out,NB224_232.out,NB232_224.out,HI0.out,HK.out,HB.out⟩)
      ·skip
       refine box_step ?hg (N:=5) ?hd (cs:=#[.string ⟨#[]⟩,.string ⟨#[]⟩]) (t:=25) ?hr ?_;(case hd=>rfl);(case hg=>rfl);(case hr=>first|(go_simp;done)|(go_simp;rfl))
       intro gb232 hg w29 hbox hb
       have n0_:=aM (IsS57.below HI0.out hb)
       have n1_:=aM (blk_below (g:=gb211) (o:=.cells #[.string ⟨#[]⟩,.string ⟨#[]⟩] 25 (0,0)) BK211.out hb)
       have n2_:=aM (blk_below (g:=gb212) (o:=.cells #[.string ⟨#[]⟩,.string ⟨#[]⟩] 25 (0,0)) BK212.out hb)
       have n3_:=aM (blk_below (g:=gb224) (o:=.cells #[.int .i64 t220,.int .i64 t221] 59 (0,0)) BK224.out hb)
       have n4_:=aM (KeepBut.trans HK.out (KeepBut.of_below hb g none) (.inl rfl))
       have n5_:=aM (below_step HB.out hb)
       have n6_:=aM (hbox)
       have n7_:=aM ((by rw [hg];exact (keep_size (w:=w) (g:=g) (row:=none) HK.out):w.heap.size ≤ gb232))
       have n8_:=aM ((Nat.le_trans HW0.out (by rw [hg];exact (keep_size (w:=w) (g:=g) (row:=none) HK.out):w.heap.size ≤ gb232):w0.heap.size ≤ gb232))
       have n9_:=aM ((by rw [hg];exact Nat.ne_of_lt (blk_lt (g:=gb211) (o:=.cells #[.string ⟨#[]⟩,.string ⟨#[]⟩] 25 (0,0)) BK211.out):gb211 ≠ gb232))
       have n10_:=aM ((by rw [hg];exact Nat.ne_of_gt (blk_lt (g:=gb211) (o:=.cells #[.string ⟨#[]⟩,.string ⟨#[]⟩] 25 (0,0)) BK211.out):gb232 ≠ gb211))
       have n11_:=aM ((by rw [hg];exact Nat.ne_of_lt (blk_lt (g:=gb212) (o:=.cells #[.string ⟨#[]⟩,.string ⟨#[]⟩] 25 (0,0)) BK212.out):gb212 ≠ gb232))
       have n12_:=aM ((by rw [hg];exact Nat.ne_of_gt (blk_lt (g:=gb212) (o:=.cells #[.string ⟨#[]⟩,.string ⟨#[]⟩] 25 (0,0)) BK212.out):gb232 ≠ gb212))
       have n13_:=aM ((by rw [hg];exact Nat.ne_of_lt (blk_lt (g:=gb224) (o:=.cells #[.int .i64 t220,.int .i64 t221] 59 (0,0)) BK224.out):gb224 ≠ gb232))
       have n14_:=aM ((by rw [hg];exact Nat.ne_of_gt (blk_lt (g:=gb224) (o:=.cells #[.int .i64 t220,.int .i64 t221] 59 (0,0)) BK224.out):gb232 ≠ gb224))
       have n15_:=aM ((by rw [hg];exact Nat.ne_of_lt (IsS57.lt (show IsS57 w0 _ g s0_0 t222 t223 from HI0.out)):g ≠ gb232))
       have n16_:=aM ((by rw [hg];exact Nat.ne_of_gt (IsS57.lt (show IsS57 w0 _ g s0_0 t222 t223 from HI0.out)):gb232 ≠ g))
       clear HI0
       clear BK211
       clear BK212
       clear BK224
       clear HK
       clear HB
       have HI0:=n0_
       have BK211:=n1_
       have BK212:=n2_
       have BK224:=n3_
       have HK:=n4_
       have HB:=n5_
       have BK232:=n6_
       have GW232:=n7_
       have GE232:=n8_
       have NB211_232:=n9_
       have NB232_211:=n10_
       have NB212_232:=n11_
       have NB232_212:=n12_
       have NB224_232:=n13_
       have NB232_224:=n14_
       have NB0_232:=n15_
       have NB232_0:=n16_
       clear n0_ n1_ n2_ n3_ n4_ n5_ n6_ n7_ n8_ n9_ n10_ n11_ n12_ n13_ n14_ n15_ n16_
       clear hb hbox hg
       refine hK.out _ _ ⟨(blk_cell BK224.out 0).trans rfl,(blk_cell BK224.out 1).trans rfl⟩ (fun hHeld=>?_)
       clear hK K
       refine norm_ (a':=?_) ?_ ?_
       rotate_left
       ·show Act.put _ (some 5) _ = _
        simp only [Act.put,sI,sZ,sS,i64_w,i32_w]
        rfl
       refine one_ (i:=1) (N:=some 61) #[tT,tT,tT,fF,fF,fF,fF,tT,fF,fF] rfl rfl (one_of HT_.out (by kernel_rfl)) (by decide) (fun K hK=>?_)
       refine goes_ Try.func33 (by kernel_rfl) rfl #[.pointer (some ⟨g,0,none⟩)] (by rfl) rfl rfl (by (try simp only [sM,sC,sN]);first|done|rfl|(simp only [List.length_drop,List.length_take];rfl)) ?_
       with_reducible refine (spec_l01Draw.calls k g s0_0 t222 t223 t225 t226 t227 t228 w0 _ ?side1 ?side2 A18.out).mono ?_
       (case side1=>repeat (first|(with_reducible first|exact HI0.out|apply iA|apply iN|apply iD|apply IsS57.set_1|apply IsS57.set_2|refine IsS57.far ?_ NB0_211.out _|refine IsS57.far ?_ NB0_212.out _|refine IsS57.far ?_ NB0_224.out _|refine IsS57.far ?_ NB0_232.out _)|exact HI0.out))
       (case side2=>repeat (first|(with_reducible first|exact HB.out|apply zA|apply zN|apply zD|refine zS ?_ (IsS57.ge HI0.out)|refine zS ?_ GE211.out|refine zS ?_ GE212.out|refine zS ?_ GE224.out|refine zS ?_ GE232.out)|exact HB.out))
       rintro e w30 ⟨rfl,hi,hb,hk⟩
       refine ⟨_,rfl,?_⟩
       replace BK211:=aM (KeepBut.blk hk (g':=gb211) (o:=.cells #[.string ⟨#[]⟩,.string ⟨#[]⟩] 25 (0,0)) BK211.out NB211_0.out (by simp))
       replace BK212:=aM (KeepBut.blk hk (g':=gb212) (o:=.cells #[.string ⟨#[]⟩,.string ⟨#[]⟩] 25 (0,0)) BK212.out NB212_0.out (by simp))
       replace BK224:=aM (KeepBut.blk hk (g':=gb224) (o:=.cells #[.int .i64 t220,.int .i64 t221] 59 (0,0)) BK224.out NB224_0.out (by simp))
       replace BK232:=aM (KeepBut.blk hk (g':=gb232) (o:=.cells #[.string ⟨#[]⟩,.string ⟨#[]⟩] 25 (0,0)) BK232.out NB232_0.out (by simp))
       replace HK:=aM (KeepBut.trans HK.out hk (.inl rfl))
       replace HB:=aM (hb)
       replace HI0:=aM (hi)
       refine hK.out _ _ ⟨(blk_cell BK224.out 0).trans rfl,(blk_cell BK224.out 1).trans rfl⟩ (fun hHeld=>?_)
       clear hK K
       refine norm_ (a':=?_) ?_ ?_
       rotate_left
       ·show Act.put _ (some 61) _ = _
        simp only [Act.put,sI,sZ,sS,i64_w,i32_w]
        rfl
       refine one_ (i:=3) (N:=some 63) #[tT,tT,tT,tT,fF,fF,fF,tT,fF,fF] rfl rfl (one_of HT_.out (by kernel_rfl)) (by decide) (fun K hK=>?_)
       refine goes_ Try.func34 (by kernel_rfl) rfl #[.agg #[.int .i64 t225,.int .i64 t226],.agg #[.int .i64 t220,.int .i64 t221]] (by rfl) rfl rfl (by (try simp only [sM,sC,sN]);first|done|rfl|(simp only [List.length_drop,List.length_take];rfl)) ?_
       with_reducible refine (spec_l02Itinerary.calls k t225 t226 t220 t221 t229 t230 true _ A19.out).mono ?_
       rintro e w31 ⟨rfl,hb⟩
       refine ⟨_,rfl,?_⟩
       have n0_:=aM (IsS57.below HI0.out hb)
       have n1_:=aM (blk_below (g:=gb211) (o:=.cells #[.string ⟨#[]⟩,.string ⟨#[]⟩] 25 (0,0)) BK211.out hb)
       have n2_:=aM (blk_below (g:=gb212) (o:=.cells #[.string ⟨#[]⟩,.string ⟨#[]⟩] 25 (0,0)) BK212.out hb)
       have n3_:=aM (blk_below (g:=gb224) (o:=.cells #[.int .i64 t220,.int .i64 t221] 59 (0,0)) BK224.out hb)
       have n4_:=aM (blk_below (g:=gb232) (o:=.cells #[.string ⟨#[]⟩,.string ⟨#[]⟩] 25 (0,0)) BK232.out hb)
       have n5_:=aM (KeepBut.trans HK.out (KeepBut.of_below hb g none) (.inl rfl))
       have n6_:=aM (below_step HB.out hb)
       clear HI0
       clear BK211
       clear BK212
       clear BK224
       clear BK232
       clear HK
       clear HB
       have HI0:=n0_
       have BK211:=n1_
       have BK212:=n2_
       have BK224:=n3_
       have BK232:=n4_
       have HK:=n5_
       have HB:=n6_
       clear n0_ n1_ n2_ n3_ n4_ n5_ n6_
       refine hK.out _ _ ⟨(blk_cell BK224.out 0).trans rfl,(blk_cell BK224.out 1).trans rfl⟩ (fun hHeld=>?_)
       clear hK K
       refine norm_ (a':=?_) ?_ ?_
       rotate_left
       ·show Act.put _ (some 63) _ = _
        simp only [Act.put,sI,sZ,sS,i64_w,i32_w]
        rfl
       refine pure_ (i:=4) (N:=some 59) (v:=?_) (a':=?_) #[tT,tT,tT,tT,tT,fF,fF,tT,fF,fF] rfl rfl (any_of HT_.out (by kernel_rfl)) (fun _ _ _ h=>h) (Or.inl ⟨by rfl,?_⟩) ?_ ?_
       rotate_left
       ·intro w'
        go_simp
        with_reducible rfl
       rotate_left
       ·simp only [Act.put,sI,sZ,sS,i64_w,i32_w]
        rfl
       refine pure_ (i:=5) (N:=some 64) (v:=?_) (a':=?_) #[tT,tT,tT,tT,tT,tT,fF,tT,fF,fF] rfl rfl (any_of HT_.out (by kernel_rfl)) (fun _ _ _ h=>h) (Or.inl ⟨by rfl,?_⟩) ?_ ?_
       rotate_left
       ·intro w'
        go_simp
        with_reducible rfl
       rotate_left
       ·simp only [Act.put,sI,sZ,sS,i64_w,i32_w]
        rfl
       refine pure_ (i:=6) (N:=some 65) (v:=?_) (a':=?_) #[tT,tT,tT,tT,tT,tT,tT,tT,fF,fF] rfl rfl (any_of HT_.out (by kernel_rfl)) (fun _ _ _ h=>h) (Or.inl ⟨by rfl,?_⟩) ?_ ?_
       rotate_left
       ·intro w'
        go_simp
        with_reducible rfl
       rotate_left
       ·simp only [Act.put,sI,sZ,sS,i64_w,i32_w]
        rfl
       exact norm_ (by simp only [putAll,Act.put,sI,sZ,sS]) (hCont (gb232) _ ⟨hHeld,BK211.out,BK212.out,BK224.out,BK232.out,GW232.out,GE232.out,NB0_232.out,NB232_0.out,NB211_232.out,NB232_211.out,NB212_232.out,NB232_212.out,NB224_232.out,NB232_224.out,HI0.out,HK.out,HB.out⟩)
     rintro gb232 w32 ⟨hS_,h0_,h1_,h2_,h3_,h4_,h5_,h6_,h7_,h8_,h9_,h10_,h11_,h12_,h13_,h14_,h15_,h16_⟩
     have n0_:Aside0 (w32.heap[gb211]? = some (.cells #[.string ⟨#[]⟩,.string ⟨#[]⟩] 25 (0,0))):=⟨h0_⟩
     have n1_:Aside0 (w32.heap[gb212]? = some (.cells #[.string ⟨#[]⟩,.string ⟨#[]⟩] 25 (0,0))):=⟨h1_⟩
     have n2_:Aside0 (w32.heap[gb224]? = some (.cells #[.int .i64 t220,.int .i64 t221] 59 (0,0))):=⟨h2_⟩
     have n3_:Aside0 (w32.heap[gb232]? = some (.cells #[.string ⟨#[]⟩,.string ⟨#[]⟩] 25 (0,0))):=⟨h3_⟩
     have n4_:Aside0 (w.heap.size ≤ gb232):=⟨h4_⟩
     have n5_:Aside0 (w0.heap.size ≤ gb232):=⟨h5_⟩
     have n6_:Aside0 (g ≠ gb232):=⟨h6_⟩
     have n7_:Aside0 (gb232 ≠ g):=⟨h7_⟩
     have n8_:Aside0 (gb211 ≠ gb232):=⟨h8_⟩
     have n9_:Aside0 (gb232 ≠ gb211):=⟨h9_⟩
     have n10_:Aside0 (gb212 ≠ gb232):=⟨h10_⟩
     have n11_:Aside0 (gb232 ≠ gb212):=⟨h11_⟩
     have n12_:Aside0 (gb224 ≠ gb232):=⟨h12_⟩
     have n13_:Aside0 (gb232 ≠ gb224):=⟨h13_⟩
     have n14_:Aside0 (IsS57 w0 w32 g s0_0 t227 t228):=⟨h14_⟩
     have n15_:Aside0 (KeepBut w w32 g none):=⟨h15_⟩
     have n16_:Aside0 (Below w0.heap.size w0 w32):=⟨h16_⟩
     clear BK211
     clear BK212
     clear BK224
     clear HI0
     clear HK
     clear HB
     clear h0_ h1_ h2_ h3_ h4_ h5_ h6_ h7_ h8_ h9_ h10_ h11_ h12_ h13_ h14_ h15_ h16_
     have BK211:=n0_
     have BK212:=n1_
     have BK224:=n2_
     have BK232:=n3_
     have GW232:=n4_
     have GE232:=n5_
     have NB0_232:=n6_
     have NB232_0:=n7_
     have NB211_232:=n8_
     have NB232_211:=n9_
     have NB212_232:=n10_
     have NB232_212:=n11_
     have NB224_232:=n12_
     have NB232_224:=n13_
     have HI0:=n14_
     have HK:=n15_
     have HB:=n16_
     clear n0_ n1_ n2_ n3_ n4_ n5_ n6_ n7_ n8_ n9_ n10_ n11_ n12_ n13_ n14_ n15_ n16_
     have hHeld:w32.cell? ⟨gb224,0,none⟩ = some (.int .i64 t220) ∧ w32.cell? ⟨gb224,1,none⟩ = some (.int .i64 t221):=hS_
     refine norm_ (a':=?_) ?_ ?_
     rotate_left
     ·simp only [putAll,Act.put,sI,sZ,sS]
      rfl
     refine one_ (i:=8) (N:=none) #[tT,tT,tT,tT,tT,tT,tT,tT,tT,fF] rfl rfl (one_of HT_.out (by kernel_rfl)) (by decide) (fun K hK=>?_)
     have hs33:w32.cell? ⟨gb232,0,none⟩ = some (.string ⟨#[]⟩):=(blk_cell BK232.out 0).trans rfl
     have hfs33:=blk_frozen BK232.out 0
     have hns33_0:=NB211_232.out
     have hns33_1:=NB212_232.out
     have hns33_2:=NB224_232.out
     have hms33_0:=NB232_211.out
     have hms33_1:=NB232_212.out
     have hms33_2:=NB232_224.out
     have hs34:w32.cell? ⟨gb232,1,none⟩ = some (.string ⟨#[]⟩):=(blk_cell BK232.out 1).trans rfl
     have hfs34:=blk_frozen BK232.out 1
     have hns34_0:=NB211_232.out
     have hns34_1:=NB212_232.out
     have hns34_2:=NB224_232.out
     have hms34_0:=NB232_211.out
     have hms34_1:=NB232_212.out
     have hms34_2:=NB232_224.out
     refine skip_ (w1:=?_) (by rfl) rfl ?_ ?_
     rotate_left
     ·go_simp
      rfl
     refine hK.out _ _ ⟨((cell_far (p:=⟨gb232,_,none⟩) NB224_232.out _).trans (((cell_far (p:=⟨gb232,_,none⟩) NB224_232.out _).trans (hHeld.1)))),((cell_far (p:=⟨gb232,_,none⟩) NB224_232.out _).trans (((cell_far (p:=⟨gb232,_,none⟩) NB224_232.out _).trans (hHeld.2))))⟩ (fun hHeld=>?_)
     clear hK K
     refine pure_ (i:=9) (N:=some 6) (v:=?_) (a':=?_) #[tT,tT,tT,tT,tT,tT,tT,tT,tT,tT] rfl rfl (any_of HT_.out (by kernel_rfl)) (fun _ _ _ h=>h) (Or.inl ⟨by rfl,?_⟩) ?_ ?_
     rotate_left
     ·intro w'
      go_simp
      with_reducible rfl
     rotate_left
     ·simp only [Act.put,sI,sZ,sS,i64_w,i32_w]
      rfl
     refine done_ (done_of HT_.out (by kernel_rfl)) ?_
     have hnb35:=NB232_211.out
     have hnc35:=NB211_232.out
     have hnb36:=NB232_212.out
     have hnc36:=NB212_232.out
     have hnb37:=NB232_224.out
     have hnc37:=NB224_232.out
     have hnb38:=NB232_0.out
     have hnc38:=NB0_232.out
     have hcz39_0:w32.cell? ⟨gb232,0,none⟩ = some (.string ⟨#[]⟩):=(blk_cell BK232.out 0).trans rfl
     have hcz39_1:w32.cell? ⟨gb232,1,none⟩ = some (.string ⟨#[]⟩):=(blk_cell BK232.out 1).trans rfl
     have hfz39_0:=blk_frozen BK232.out 0
     have hfz39_1:=blk_frozen BK232.out 1
     have hnb40:=NB212_211.out
     have hnc40:=NB211_212.out
     have hnb41:=NB212_0.out
     have hnc41:=NB0_212.out
     have hcz42_0:w32.cell? ⟨gb212,0,none⟩ = some (.string ⟨#[]⟩):=(blk_cell BK212.out 0).trans rfl
     have hcz42_1:w32.cell? ⟨gb212,1,none⟩ = some (.string ⟨#[]⟩):=(blk_cell BK212.out 1).trans rfl
     have hfz42_0:=blk_frozen BK212.out 0
     have hfz42_1:=blk_frozen BK212.out 1
     try go_wp2
     go_meet
     case rel=>exact ⟨_,(t227),(t228),(t229),(t230),H',⟨by first|omega|exact Nat.le_refl _⟩,⟨by (with_reducible repeat (first|refine yN ?_ _|refine yD ?_|refine yA ?_ _));refine blk_far ?_ NB211_212.out _;(with_reducible repeat (first|refine yN ?_ _|refine yD ?_|refine yA ?_ _));refine blk_far ?_ NB211_212.out _;(with_reducible repeat (first|refine yN ?_ _|refine yD ?_|refine yA ?_ _));refine blk_far ?_ NB211_232.out _;(with_reducible repeat (first|refine yN ?_ _|refine yD ?_|refine yA ?_ _));refine blk_far ?_ NB211_232.out _;(with_reducible repeat (first|refine yN ?_ _|refine yD ?_|refine yA ?_ _));exact BK211.out⟩,⟨by (with_reducible repeat (first|refine yN ?_ _|refine yD ?_|refine yA ?_ _));refine blk_put (cs:=#[.string t229,.string ⟨#[]⟩]) ?_ 1 _ rfl;(with_reducible repeat (first|refine yN ?_ _|refine yD ?_|refine yA ?_ _));refine blk_put (cs:=#[.string ⟨#[]⟩,.string ⟨#[]⟩]) ?_ 0 _ rfl;(with_reducible repeat (first|refine yN ?_ _|refine yD ?_|refine yA ?_ _));refine blk_far ?_ NB212_232.out _;(with_reducible repeat (first|refine yN ?_ _|refine yD ?_|refine yA ?_ _));refine blk_far ?_ NB212_232.out _;(with_reducible repeat (first|refine yN ?_ _|refine yD ?_|refine yA ?_ _));exact BK212.out⟩,⟨by repeat (first|(with_reducible first|exact HI0.out|apply iA|apply iN|apply iD|apply IsS57.set_1|apply IsS57.set_2|refine IsS57.far ?_ NB0_211.out _|refine IsS57.far ?_ NB0_212.out _|refine IsS57.far ?_ NB0_224.out _|refine IsS57.far ?_ NB0_232.out _)|exact HI0.out)⟩,⟨by repeat (first|(with_reducible first|exact HK.out|apply kS|apply kN|apply kD|apply kA|refine kF ?_ GW211.out _|refine kF ?_ GW212.out _|refine kF ?_ GW224.out _|refine kF ?_ GW232.out _)|exact HK.out)⟩,⟨by repeat (first|(with_reducible first|exact HB.out|apply zA|apply zN|apply zD|refine zS ?_ (IsS57.ge HI0.out)|refine zS ?_ GE211.out|refine zS ?_ GE212.out|refine zS ?_ GE224.out|refine zS ?_ GE232.out)|exact HB.out)⟩⟩
    ·replace c20:=Bool.eq_false_iff.mpr c20
     subst c20
     have H1:((spec_l02Star1.f k s0_0 t227 t228).bind fun bt233=>(spec_l02Draw.j2 k s0_0 bt233.2.2.1 bt233.2.2.2 bt233.1 bt233.2.1)) = some (r1,r2,r3,r4):=by rw [if_neg (show ¬ (false = true) by decide)] at H;exact H
     clear H
     have H:=H1
     clear H1
     replace H:=Option.bind_eq_some_iff.mp H
     obtain ⟨⟨t233,t234,t235,t236⟩,A430,H⟩:=H
     replace H:(spec_l02Draw.j2 k s0_0 t235 t236 t233 t234) = some (r1,r2,r3,r4):=H
     have A43:=aM A430
     clear A430
     have H':=aM H
     clear H
     try go_wp2_with (first|((with_reducible refine gate_callee (f:=33) rfl ?_);refine goesL_ (some 58) rfl rfl Try.func33 (by kernel_rfl) rfl #[.pointer (some ⟨g,0,none⟩)] rfl (by (try simp only [sM,sC,sN]);first|done|rfl|(simp only [List.length_drop,List.length_take];rfl)) ?_;(with_reducible refine (spec_l01Draw.calls k g s0_0 t214 t215 t220 t221 t222 t223 w0 _ ?side1 ?side2 A17.out).mono ?_);(case side1=>repeat (first|(with_reducible first|exact HI0.out|apply iA|apply iN|apply iD|apply IsS57.set_1|apply IsS57.set_2|refine IsS57.far ?_ NB0_211.out _|refine IsS57.far ?_ NB0_212.out _)|exact HI0.out));(case side2=>repeat (first|(with_reducible first|exact HB.out|apply zA|apply zN|apply zD|refine zS ?_ (IsS57.ge HI0.out)|refine zS ?_ GE211.out|refine zS ?_ GE212.out)|exact HB.out));rintro e w44 ⟨rfl,hi,hb,hk⟩;refine ⟨_,rfl,?_⟩;replace BK211:=aM (KeepBut.blk hk (g':=gb211) (o:=.cells #[.string ⟨#[]⟩,.string ⟨#[]⟩] 25 (0,0)) BK211.out NB211_0.out (by simp));replace BK212:=aM (KeepBut.blk hk (g':=gb212) (o:=.cells #[.string ⟨#[]⟩,.string ⟨#[]⟩] 25 (0,0)) BK212.out NB212_0.out (by simp));replace HK:=aM (KeepBut.trans HK.out hk (.inl rfl));replace HB:=aM (hb);replace HI0:=aM (hi);(try clear hb);(try clear hb2);(try clear hk);(try clear hi))|((with_reducible refine gate_dst (N:=4) rfl ?_);refine box_event ?hg (N:=4) ?hd (cs:=#[.int .i64 0,.int .i64 0]) (t:=59) ?hr ?_;(case hd=>rfl);(case hg=>rfl);(case hr=>first|(go_simp;done)|(go_simp;rfl));intro gb224 hg w45 hbox hb;have n0_:=aM (IsS57.below HI0.out hb);have n1_:=aM (blk_below (g:=gb211) (o:=.cells #[.string ⟨#[]⟩,.string ⟨#[]⟩] 25 (0,0)) BK211.out hb);have n2_:=aM (blk_below (g:=gb212) (o:=.cells #[.string ⟨#[]⟩,.string ⟨#[]⟩] 25 (0,0)) BK212.out hb);have n3_:=aM (KeepBut.trans HK.out (KeepBut.of_below hb g none) (.inl rfl));have n4_:=aM (below_step HB.out hb);have n5_:=aM (hbox);have n6_:=aM ((by rw [hg];exact (keep_size (w:=w) (g:=g) (row:=none) HK.out):w.heap.size ≤ gb224));have n7_:=aM ((Nat.le_trans HW0.out (by rw [hg];exact (keep_size (w:=w) (g:=g) (row:=none) HK.out):w.heap.size ≤ gb224):w0.heap.size ≤ gb224));have n8_:=aM ((by rw [hg];exact Nat.ne_of_lt (blk_lt (g:=gb211) (o:=.cells #[.string ⟨#[]⟩,.string ⟨#[]⟩] 25 (0,0)) BK211.out):gb211 ≠ gb224));have n9_:=aM ((by rw [hg];exact Nat.ne_of_gt (blk_lt (g:=gb211) (o:=.cells #[.string ⟨#[]⟩,.string ⟨#[]⟩] 25 (0,0)) BK211.out):gb224 ≠ gb211));have n10_:=aM ((by rw [hg];exact Nat.ne_of_lt (blk_lt (g:=gb212) (o:=.cells #[.string ⟨#[]⟩,.string ⟨#[]⟩] 25 (0,0)) BK212.out):gb212 ≠ gb224));have n11_:=aM ((by rw [hg];exact Nat.ne_of_gt (blk_lt (g:=gb212) (o:=.cells #[.string ⟨#[]⟩,.string ⟨#[]⟩] 25 (0,0)) BK212.out):gb224 ≠ gb212));have n12_:=aM ((by rw [hg];exact Nat.ne_of_lt (IsS57.lt (show IsS57 w0 _ g s0_0 t222 t223 from HI0.out)):g ≠ gb224));have n13_:=aM ((by rw [hg];exact Nat.ne_of_gt (IsS57.lt (show IsS57 w0 _ g s0_0 t222 t223 from HI0.out)):gb224 ≠ g));clear HI0;clear BK211;clear BK212;clear HK;clear HB;have HI0:=n0_;have BK211:=n1_;have BK212:=n2_;have HK:=n3_;have HB:=n4_;have BK224:=n5_;have GW224:=n6_;have GE224:=n7_;have NB211_224:=n8_;have NB224_211:=n9_;have NB212_224:=n10_;have NB224_212:=n11_;have NB0_224:=n12_;have NB224_0:=n13_;clear n0_ n1_ n2_ n3_ n4_ n5_ n6_ n7_ n8_ n9_ n10_ n11_ n12_ n13_;clear hb hbox hg;have hnb46:=NB224_211.out;have hnc46:=NB211_224.out;have hnb47:=NB224_212.out;have hnc47:=NB212_224.out;have hnb48:=NB224_0.out;have hnc48:=NB0_224.out;have hcz49_0:w45.cell? ⟨gb224,0,none⟩ = some (.int .i64 0):=(blk_cell BK224.out 0).trans rfl;have hcz49_1:w45.cell? ⟨gb224,1,none⟩ = some (.int .i64 0):=(blk_cell BK224.out 1).trans rfl;have hfz49_0:=blk_frozen BK224.out 0;have hfz49_1:=blk_frozen BK224.out 1))
     have n0_:Aside0 (((w45.setCell ⟨gb224,0,none⟩ (.int .i64 t220)).setCell ⟨gb224,1,none⟩ (.int .i64 t221)).heap[gb211]? = some (.cells #[.string ⟨#[]⟩,.string ⟨#[]⟩] 25 (0,0))):=⟨by (with_reducible repeat (first|refine yN ?_ _|refine yD ?_|refine yA ?_ _));refine blk_far ?_ NB211_224.out _;(with_reducible repeat (first|refine yN ?_ _|refine yD ?_|refine yA ?_ _));refine blk_far ?_ NB211_224.out _;(with_reducible repeat (first|refine yN ?_ _|refine yD ?_|refine yA ?_ _));exact BK211.out⟩
     have n1_:Aside0 (((w45.setCell ⟨gb224,0,none⟩ (.int .i64 t220)).setCell ⟨gb224,1,none⟩ (.int .i64 t221)).heap[gb212]? = some (.cells #[.string ⟨#[]⟩,.string ⟨#[]⟩] 25 (0,0))):=⟨by (with_reducible repeat (first|refine yN ?_ _|refine yD ?_|refine yA ?_ _));refine blk_far ?_ NB212_224.out _;(with_reducible repeat (first|refine yN ?_ _|refine yD ?_|refine yA ?_ _));refine blk_far ?_ NB212_224.out _;(with_reducible repeat (first|refine yN ?_ _|refine yD ?_|refine yA ?_ _));exact BK212.out⟩
     have n2_:Aside0 (((w45.setCell ⟨gb224,0,none⟩ (.int .i64 t220)).setCell ⟨gb224,1,none⟩ (.int .i64 t221)).heap[gb224]? = some (.cells #[.int .i64 t220,.int .i64 t221] 59 (0,0))):=⟨by (with_reducible repeat (first|refine yN ?_ _|refine yD ?_|refine yA ?_ _));refine blk_put (cs:=#[.int .i64 t220,.int .i64 0]) ?_ 1 _ rfl;(with_reducible repeat (first|refine yN ?_ _|refine yD ?_|refine yA ?_ _));refine blk_put (cs:=#[.int .i64 0,.int .i64 0]) ?_ 0 _ rfl;(with_reducible repeat (first|refine yN ?_ _|refine yD ?_|refine yA ?_ _));exact BK224.out⟩
     have n3_:Aside0 (IsS57 w0 ((w45.setCell ⟨gb224,0,none⟩ (.int .i64 t220)).setCell ⟨gb224,1,none⟩ (.int .i64 t221)) g s0_0 t222 t223):=⟨by repeat (first|(with_reducible first|exact HI0.out|apply iA|apply iN|apply iD|apply IsS57.set_1|apply IsS57.set_2|refine IsS57.far ?_ NB0_211.out _|refine IsS57.far ?_ NB0_212.out _|refine IsS57.far ?_ NB0_224.out _)|exact HI0.out)⟩
     have n4_:Aside0 (KeepBut w ((w45.setCell ⟨gb224,0,none⟩ (.int .i64 t220)).setCell ⟨gb224,1,none⟩ (.int .i64 t221)) g none):=⟨by repeat (first|(with_reducible first|exact HK.out|apply kS|apply kN|apply kD|apply kA|refine kF ?_ GW211.out _|refine kF ?_ GW212.out _|refine kF ?_ GW224.out _)|exact HK.out)⟩
     have n5_:Aside0 (Below w0.heap.size w0 ((w45.setCell ⟨gb224,0,none⟩ (.int .i64 t220)).setCell ⟨gb224,1,none⟩ (.int .i64 t221))):=⟨by repeat (first|(with_reducible first|exact HB.out|apply zA|apply zN|apply zD|refine zS ?_ (IsS57.ge HI0.out)|refine zS ?_ GE211.out|refine zS ?_ GE212.out|refine zS ?_ GE224.out)|exact HB.out)⟩
     (try clear BK211)
     (try clear BK212)
     (try clear BK224)
     (try clear HI0)
     (try clear HK)
     (try clear HB)
     generalize ((w45.setCell ⟨gb224,0,none⟩ (.int .i64 t220)).setCell ⟨gb224,1,none⟩ (.int .i64 t221)) = w50 at n0_ n1_ n2_ n3_ n4_ n5_ ⊢
     have BK211:=n0_
     have BK212:=n1_
     have BK224:=n2_
     have HI0:=n3_
     have HK:=n4_
     have HB:=n5_
     clear n0_ n1_ n2_ n3_ n4_ n5_
     replace BK211:=aM (yD BK211.out)
     replace BK212:=aM (yD BK212.out)
     replace BK224:=aM (yD BK224.out)
     replace HI0:=aM (IsS57.drew HI0.out)
     replace HK:=aM (kD HK.out)
     replace HB:=aM (zD HB.out)
     refine start_ (n:=10) (S:=fun w'=>w'.cell? ⟨gb224,0,none⟩ = some (.int .i64 t220) ∧ w'.cell? ⟨gb224,1,none⟩ = some (.int .i64 t221)) (ds:=[]) #[fF,fF,fF,fF,fF,fF,fF,fF,fF,fF] (by kernel_rfl) rfl rfl ⟨(blk_cell BK224.out 0).trans rfl,(blk_cell BK224.out 1).trans rfl⟩ (fun hHeld=>?_);refine with_tabW spec_l02Draw.tab17 spec_l02Draw.bits17 (fun HT_ HW_=>?_)
     generalize w50.drew = w51 at BK211 BK212 BK224 HI0 HK HB hHeld ⊢
     refine pure_ (i:=0) (N:=some 60) (v:=?_) (a':=?_) #[tT,fF,fF,fF,fF,fF,fF,fF,fF,fF] rfl rfl (any_of HT_.out (by kernel_rfl)) (fun _ _ _ h=>h) (Or.inl ⟨by rfl,?_⟩) ?_ ?_
     rotate_left
     ·intro w'
      go_simp
      with_reducible rfl
     rotate_left
     ·simp only [Act.put,sI,sZ,sS,i64_w,i32_w]
      rfl
     refine take_ (i:=2) (N:=some 62) (v:=?_) (a':=?_) #[tT,fF,tT,fF,fF,fF,fF,fF,fF,fF] rfl rfl (take_ofW HT_.out HW_.out (by kernel_rfl)) (fun _ _ _ h=>h) (Or.inl ⟨by rfl,?_⟩) hHeld ?_ ?_
     rotate_left
     ·rintro w' ⟨s0,s1⟩
      go_simp
      with_reducible rfl
     rotate_left
     ·simp only [Act.put,sI,sZ,sS,i64_w,i32_w]
      rfl
     refine join_ (σ:=Nat) 2 #[true,true,true,true,true,true,true,true,false,false] (fun s_=>[(61,.agg #[.int .i64 t225,.int .i64 t226]),(63,.tuple #[.agg #[.string t229,.string t230],.bool false]),(5,.pointer (some ⟨s_,0,none⟩)),(59,.tuple #[.agg #[.string t229,.string t230],.bool false]),(64,.agg #[.string t229,.string t230]),(65,.bool false)]) (fun s_ w'=>(w'.cell? ⟨gb224,0,none⟩ = some (.int .i64 t220) ∧ w'.cell? ⟨gb224,1,none⟩ = some (.int .i64 t221)) ∧ (w'.heap[gb211]? = some (.cells #[.string ⟨#[]⟩,.string ⟨#[]⟩] 25 (0,0))) ∧ (w'.heap[gb212]? = some (.cells #[.string ⟨#[]⟩,.string ⟨#[]⟩] 25 (0,0))) ∧ (w'.heap[gb224]? = some (.cells #[.int .i64 t220,.int .i64 t221] 59 (0,0))) ∧ (w'.heap[s_]? = some (.cells #[.string ⟨#[]⟩,.string ⟨#[]⟩] 25 (0,0))) ∧ (w.heap.size ≤ s_) ∧ (w0.heap.size ≤ s_) ∧ (g ≠ s_) ∧ (s_ ≠ g) ∧ (gb211 ≠ s_) ∧ (s_ ≠ gb211) ∧ (gb212 ≠ s_) ∧ (s_ ≠ gb212) ∧ (gb224 ≠ s_) ∧ (s_ ≠ gb224) ∧ (IsS57 w0 w' g s0_0 t227 t228) ∧ (KeepBut w w' g none) ∧ (Below w0.heap.size w0 w')) ?_ ?_
     rotate_left
     ·intro hCont
      refine two_ (i:=1) (j:=7) (Ni:=some 61) (Nj:=some 5) #[true,true,true,false,false,false,false,false,false,false] #[true,false,true,false,false,false,false,true,false,false] rfl rfl rfl rfl (two_of HT_.out (by kernel_rfl)) (by decide) (by decide) (fun K hK=>?_) (fun K hK=>?_)
      ·skip
       refine goes_ Try.func33 (by kernel_rfl) rfl #[.pointer (some ⟨g,0,none⟩)] (by rfl) rfl rfl (by (try simp only [sM,sC,sN]);first|done|rfl|(simp only [List.length_drop,List.length_take];rfl)) ?_
       with_reducible refine (spec_l01Draw.calls k g s0_0 t222 t223 t225 t226 t227 t228 w0 _ ?side1 ?side2 A18.out).mono ?_
       (case side1=>repeat (first|(with_reducible first|exact HI0.out|apply iA|apply iN|apply iD|apply IsS57.set_1|apply IsS57.set_2|refine IsS57.far ?_ NB0_211.out _|refine IsS57.far ?_ NB0_212.out _|refine IsS57.far ?_ NB0_224.out _)|exact HI0.out))
       (case side2=>repeat (first|(with_reducible first|exact HB.out|apply zA|apply zN|apply zD|refine zS ?_ (IsS57.ge HI0.out)|refine zS ?_ GE211.out|refine zS ?_ GE212.out|refine zS ?_ GE224.out)|exact HB.out))
       rintro e w52 ⟨rfl,hi,hb,hk⟩
       refine ⟨_,rfl,?_⟩
       replace BK211:=aM (KeepBut.blk hk (g':=gb211) (o:=.cells #[.string ⟨#[]⟩,.string ⟨#[]⟩] 25 (0,0)) BK211.out NB211_0.out (by simp))
       replace BK212:=aM (KeepBut.blk hk (g':=gb212) (o:=.cells #[.string ⟨#[]⟩,.string ⟨#[]⟩] 25 (0,0)) BK212.out NB212_0.out (by simp))
       replace BK224:=aM (KeepBut.blk hk (g':=gb224) (o:=.cells #[.int .i64 t220,.int .i64 t221] 59 (0,0)) BK224.out NB224_0.out (by simp))
       replace HK:=aM (KeepBut.trans HK.out hk (.inl rfl))
       replace HB:=aM (hb)
       replace HI0:=aM (hi)
       refine hK.out _ _ ⟨(blk_cell BK224.out 0).trans rfl,(blk_cell BK224.out 1).trans rfl⟩ (fun hHeld=>?_)
       clear hK K
       refine norm_ (a':=?_) ?_ ?_
       rotate_left
       ·show Act.put _ (some 61) _ = _
        simp only [Act.put,sI,sZ,sS,i64_w,i32_w]
        rfl
       refine two_ (i:=3) (j:=7) (Ni:=some 63) (Nj:=some 5) #[true,true,true,true,false,false,false,false,false,false] #[true,true,true,false,false,false,false,true,false,false] rfl rfl rfl rfl (two_of HT_.out (by kernel_rfl)) (by decide) (by decide) (fun K hK=>?_) (fun K hK=>?_)
       ·skip
        refine goes_ Try.func34 (by kernel_rfl) rfl #[.agg #[.int .i64 t225,.int .i64 t226],.agg #[.int .i64 t220,.int .i64 t221]] (by rfl) rfl rfl (by (try simp only [sM,sC,sN]);first|done|rfl|(simp only [List.length_drop,List.length_take];rfl)) ?_
        with_reducible refine (spec_l02Itinerary.calls k t225 t226 t220 t221 t229 t230 false _ A19.out).mono ?_
        rintro e w53 ⟨rfl,hb⟩
        refine ⟨_,rfl,?_⟩
        have n0_:=aM (IsS57.below HI0.out hb)
        have n1_:=aM (blk_below (g:=gb211) (o:=.cells #[.string ⟨#[]⟩,.string ⟨#[]⟩] 25 (0,0)) BK211.out hb)
        have n2_:=aM (blk_below (g:=gb212) (o:=.cells #[.string ⟨#[]⟩,.string ⟨#[]⟩] 25 (0,0)) BK212.out hb)
        have n3_:=aM (blk_below (g:=gb224) (o:=.cells #[.int .i64 t220,.int .i64 t221] 59 (0,0)) BK224.out hb)
        have n4_:=aM (KeepBut.trans HK.out (KeepBut.of_below hb g none) (.inl rfl))
        have n5_:=aM (below_step HB.out hb)
        clear HI0
        clear BK211
        clear BK212
        clear BK224
        clear HK
        clear HB
        have HI0:=n0_
        have BK211:=n1_
        have BK212:=n2_
        have BK224:=n3_
        have HK:=n4_
        have HB:=n5_
        clear n0_ n1_ n2_ n3_ n4_ n5_
        refine hK.out _ _ ⟨(blk_cell BK224.out 0).trans rfl,(blk_cell BK224.out 1).trans rfl⟩ (fun hHeld=>?_)
        clear hK K
        refine norm_ (a':=?_) ?_ ?_
        rotate_left
        ·show Act.put _ (some 63) _ = _
         simp only [Act.put,sI,sZ,sS,i64_w,i32_w]
         rfl
        refine pure_ (i:=4) (N:=some 59) (v:=?_) (a':=?_) #[tT,tT,tT,tT,tT,fF,fF,fF,fF,fF] rfl rfl (any_of HT_.out (by kernel_rfl)) (fun _ _ _ h=>h) (Or.inl ⟨by rfl,?_⟩) ?_ ?_
        rotate_left
        ·intro w'
         go_simp
         with_reducible rfl
        rotate_left
        ·simp only [Act.put,sI,sZ,sS,i64_w,i32_w]
         rfl
        refine pure_ (i:=5) (N:=some 64) (v:=?_) (a':=?_) #[tT,tT,tT,tT,tT,tT,fF,fF,fF,fF] rfl rfl (any_of HT_.out (by kernel_rfl)) (fun _ _ _ h=>h) (Or.inl ⟨by rfl,?_⟩) ?_ ?_
        rotate_left
        ·intro w'
         go_simp
         with_reducible rfl
        rotate_left
        ·simp only [Act.put,sI,sZ,sS,i64_w,i32_w]
         rfl
        refine pure_ (i:=6) (N:=some 65) (v:=?_) (a':=?_) #[tT,tT,tT,tT,tT,tT,tT,fF,fF,fF] rfl rfl (any_of HT_.out (by kernel_rfl)) (fun _ _ _ h=>h) (Or.inl ⟨by rfl,?_⟩) ?_ ?_
        rotate_left
        ·intro w'
         go_simp
         with_reducible rfl
        rotate_left
        ·simp only [Act.put,sI,sZ,sS,i64_w,i32_w]
         rfl
        refine one_ (i:=7) (N:=some 5) #[tT,tT,tT,tT,tT,tT,tT,tT,fF,fF] rfl rfl (one_of HT_.out (by kernel_rfl)) (by decide) (fun K hK=>?_)
        refine box_step ?hg (N:=5) ?hd (cs:=#[.string ⟨#[]⟩,.string ⟨#[]⟩]) (t:=25) ?hr ?_;(case hd=>rfl);(case hg=>rfl);(case hr=>first|(go_simp;done)|(go_simp;rfl))
        intro gb232 hg w54 hbox hb
        have n0_:=aM (IsS57.below HI0.out hb)
        have n1_:=aM (blk_below (g:=gb211) (o:=.cells #[.string ⟨#[]⟩,.string ⟨#[]⟩] 25 (0,0)) BK211.out hb)
        have n2_:=aM (blk_below (g:=gb212) (o:=.cells #[.string ⟨#[]⟩,.string ⟨#[]⟩] 25 (0,0)) BK212.out hb)
        have n3_:=aM (blk_below (g:=gb224) (o:=.cells #[.int .i64 t220,.int .i64 t221] 59 (0,0)) BK224.out hb)
        have n4_:=aM (KeepBut.trans HK.out (KeepBut.of_below hb g none) (.inl rfl))
        have n5_:=aM (below_step HB.out hb)
        have n6_:=aM (hbox)
        have n7_:=aM ((by rw [hg];exact (keep_size (w:=w) (g:=g) (row:=none) HK.out):w.heap.size ≤ gb232))
        have n8_:=aM ((Nat.le_trans HW0.out (by rw [hg];exact (keep_size (w:=w) (g:=g) (row:=none) HK.out):w.heap.size ≤ gb232):w0.heap.size ≤ gb232))
        have n9_:=aM ((by rw [hg];exact Nat.ne_of_lt (blk_lt (g:=gb211) (o:=.cells #[.string ⟨#[]⟩,.string ⟨#[]⟩] 25 (0,0)) BK211.out):gb211 ≠ gb232))
        have n10_:=aM ((by rw [hg];exact Nat.ne_of_gt (blk_lt (g:=gb211) (o:=.cells #[.string ⟨#[]⟩,.string ⟨#[]⟩] 25 (0,0)) BK211.out):gb232 ≠ gb211))
        have n11_:=aM ((by rw [hg];exact Nat.ne_of_lt (blk_lt (g:=gb212) (o:=.cells #[.string ⟨#[]⟩,.string ⟨#[]⟩] 25 (0,0)) BK212.out):gb212 ≠ gb232))
        have n12_:=aM ((by rw [hg];exact Nat.ne_of_gt (blk_lt (g:=gb212) (o:=.cells #[.string ⟨#[]⟩,.string ⟨#[]⟩] 25 (0,0)) BK212.out):gb232 ≠ gb212))
        have n13_:=aM ((by rw [hg];exact Nat.ne_of_lt (blk_lt (g:=gb224) (o:=.cells #[.int .i64 t220,.int .i64 t221] 59 (0,0)) BK224.out):gb224 ≠ gb232))
        have n14_:=aM ((by rw [hg];exact Nat.ne_of_gt (blk_lt (g:=gb224) (o:=.cells #[.int .i64 t220,.int .i64 t221] 59 (0,0)) BK224.out):gb232 ≠ gb224))
        have n15_:=aM ((by rw [hg];exact Nat.ne_of_lt (IsS57.lt (show IsS57 w0 _ g s0_0 t227 t228 from HI0.out)):g ≠ gb232))
        have n16_:=aM ((by rw [hg];exact Nat.ne_of_gt (IsS57.lt (show IsS57 w0 _ g s0_0 t227 t228 from HI0.out)):gb232 ≠ g))
        clear HI0
        clear BK211
        clear BK212
        clear BK224
        clear HK
        clear HB
        have HI0:=n0_
        have BK211:=n1_
        have BK212:=n2_
        have BK224:=n3_
        have HK:=n4_
        have HB:=n5_
        have BK232:=n6_
        have GW232:=n7_
        have GE232:=n8_
        have NB211_232:=n9_
        have NB232_211:=n10_
        have NB212_232:=n11_
        have NB232_212:=n12_
        have NB224_232:=n13_
        have NB232_224:=n14_
        have NB0_232:=n15_
        have NB232_0:=n16_
        clear n0_ n1_ n2_ n3_ n4_ n5_ n6_ n7_ n8_ n9_ n10_ n11_ n12_ n13_ n14_ n15_ n16_
        clear hb hbox hg
        refine hK.out _ _ ⟨(blk_cell BK224.out 0).trans rfl,(blk_cell BK224.out 1).trans rfl⟩ (fun hHeld=>?_)
        clear hK K
        refine norm_ (a':=?_) ?_ ?_
        rotate_left
        ·show Act.put _ (some 5) _ = _
         simp only [Act.put,sI,sZ,sS,i64_w,i32_w]
         rfl
        exact norm_ (by simp only [putAll,Act.put,sI,sZ,sS]) (hCont (gb232) _ ⟨hHeld,BK211.out,BK212.out,BK224.out,BK232.out,GW232.out,GE232.out,NB0_232.out,NB232_0.out,NB211_232.out,NB232_211.out,NB212_232.out,NB232_212.out,NB224_232.out,NB232_224.out,HI0.out,HK.out,HB.out⟩)
       ·skip
        refine box_step ?hg (N:=5) ?hd (cs:=#[.string ⟨#[]⟩,.string ⟨#[]⟩]) (t:=25) ?hr ?_;(case hd=>rfl);(case hg=>rfl);(case hr=>first|(go_simp;done)|(go_simp;rfl))
        intro gb232 hg w53 hbox hb
        have n0_:=aM (IsS57.below HI0.out hb)
        have n1_:=aM (blk_below (g:=gb211) (o:=.cells #[.string ⟨#[]⟩,.string ⟨#[]⟩] 25 (0,0)) BK211.out hb)
        have n2_:=aM (blk_below (g:=gb212) (o:=.cells #[.string ⟨#[]⟩,.string ⟨#[]⟩] 25 (0,0)) BK212.out hb)
        have n3_:=aM (blk_below (g:=gb224) (o:=.cells #[.int .i64 t220,.int .i64 t221] 59 (0,0)) BK224.out hb)
        have n4_:=aM (KeepBut.trans HK.out (KeepBut.of_below hb g none) (.inl rfl))
        have n5_:=aM (below_step HB.out hb)
        have n6_:=aM (hbox)
        have n7_:=aM ((by rw [hg];exact (keep_size (w:=w) (g:=g) (row:=none) HK.out):w.heap.size ≤ gb232))
        have n8_:=aM ((Nat.le_trans HW0.out (by rw [hg];exact (keep_size (w:=w) (g:=g) (row:=none) HK.out):w.heap.size ≤ gb232):w0.heap.size ≤ gb232))
        have n9_:=aM ((by rw [hg];exact Nat.ne_of_lt (blk_lt (g:=gb211) (o:=.cells #[.string ⟨#[]⟩,.string ⟨#[]⟩] 25 (0,0)) BK211.out):gb211 ≠ gb232))
        have n10_:=aM ((by rw [hg];exact Nat.ne_of_gt (blk_lt (g:=gb211) (o:=.cells #[.string ⟨#[]⟩,.string ⟨#[]⟩] 25 (0,0)) BK211.out):gb232 ≠ gb211))
        have n11_:=aM ((by rw [hg];exact Nat.ne_of_lt (blk_lt (g:=gb212) (o:=.cells #[.string ⟨#[]⟩,.string ⟨#[]⟩] 25 (0,0)) BK212.out):gb212 ≠ gb232))
        have n12_:=aM ((by rw [hg];exact Nat.ne_of_gt (blk_lt (g:=gb212) (o:=.cells #[.string ⟨#[]⟩,.string ⟨#[]⟩] 25 (0,0)) BK212.out):gb232 ≠ gb212))
        have n13_:=aM ((by rw [hg];exact Nat.ne_of_lt (blk_lt (g:=gb224) (o:=.cells #[.int .i64 t220,.int .i64 t221] 59 (0,0)) BK224.out):gb224 ≠ gb232))
        have n14_:=aM ((by rw [hg];exact Nat.ne_of_gt (blk_lt (g:=gb224) (o:=.cells #[.int .i64 t220,.int .i64 t221] 59 (0,0)) BK224.out):gb232 ≠ gb224))
        have n15_:=aM ((by rw [hg];exact Nat.ne_of_lt (IsS57.lt (show IsS57 w0 _ g s0_0 t227 t228 from HI0.out)):g ≠ gb232))
        have n16_:=aM ((by rw [hg];exact Nat.ne_of_gt (IsS57.lt (show IsS57 w0 _ g s0_0 t227 t228 from HI0.out)):gb232 ≠ g))
        clear HI0
        clear BK211
        clear BK212
        clear BK224
        clear HK
        clear HB
        have HI0:=n0_
        have BK211:=n1_
        have BK212:=n2_
        have BK224:=n3_
        have HK:=n4_
        have HB:=n5_
        have BK232:=n6_
        have GW232:=n7_
        have GE232:=n8_
        have NB211_232:=n9_
        have NB232_211:=n10_
        have NB212_232:=n11_
        have NB232_212:=n12_
        have NB224_232:=n13_
        have NB232_224:=n14_
        have NB0_232:=n15_
        have NB232_0:=n16_
        clear n0_ n1_ n2_ n3_ n4_ n5_ n6_ n7_ n8_ n9_ n10_ n11_ n12_ n13_ n14_ n15_ n16_
        clear hb hbox hg
        refine hK.out _ _ ⟨(blk_cell BK224.out 0).trans rfl,(blk_cell BK224.out 1).trans rfl⟩ (fun hHeld=>?_)
        clear hK K
        refine norm_ (a':=?_) ?_ ?_
        rotate_left
        ·show Act.put _ (some 5) _ = _
         simp only [Act.put,sI,sZ,sS,i64_w,i32_w]
         rfl
        refine one_ (i:=3) (N:=some 63) #[tT,tT,tT,tT,fF,fF,fF,tT,fF,fF] rfl rfl (one_of HT_.out (by kernel_rfl)) (by decide) (fun K hK=>?_)
        refine goes_ Try.func34 (by kernel_rfl) rfl #[.agg #[.int .i64 t225,.int .i64 t226],.agg #[.int .i64 t220,.int .i64 t221]] (by rfl) rfl rfl (by (try simp only [sM,sC,sN]);first|done|rfl|(simp only [List.length_drop,List.length_take];rfl)) ?_
        with_reducible refine (spec_l02Itinerary.calls k t225 t226 t220 t221 t229 t230 false _ A19.out).mono ?_
        rintro e w54 ⟨rfl,hb⟩
        refine ⟨_,rfl,?_⟩
        have n0_:=aM (IsS57.below HI0.out hb)
        have n1_:=aM (blk_below (g:=gb211) (o:=.cells #[.string ⟨#[]⟩,.string ⟨#[]⟩] 25 (0,0)) BK211.out hb)
        have n2_:=aM (blk_below (g:=gb212) (o:=.cells #[.string ⟨#[]⟩,.string ⟨#[]⟩] 25 (0,0)) BK212.out hb)
        have n3_:=aM (blk_below (g:=gb224) (o:=.cells #[.int .i64 t220,.int .i64 t221] 59 (0,0)) BK224.out hb)
        have n4_:=aM (blk_below (g:=gb232) (o:=.cells #[.string ⟨#[]⟩,.string ⟨#[]⟩] 25 (0,0)) BK232.out hb)
        have n5_:=aM (KeepBut.trans HK.out (KeepBut.of_below hb g none) (.inl rfl))
        have n6_:=aM (below_step HB.out hb)
        clear HI0
        clear BK211
        clear BK212
        clear BK224
        clear BK232
        clear HK
        clear HB
        have HI0:=n0_
        have BK211:=n1_
        have BK212:=n2_
        have BK224:=n3_
        have BK232:=n4_
        have HK:=n5_
        have HB:=n6_
        clear n0_ n1_ n2_ n3_ n4_ n5_ n6_
        refine hK.out _ _ ⟨(blk_cell BK224.out 0).trans rfl,(blk_cell BK224.out 1).trans rfl⟩ (fun hHeld=>?_)
        clear hK K
        refine norm_ (a':=?_) ?_ ?_
        rotate_left
        ·show Act.put _ (some 63) _ = _
         simp only [Act.put,sI,sZ,sS,i64_w,i32_w]
         rfl
        refine pure_ (i:=4) (N:=some 59) (v:=?_) (a':=?_) #[tT,tT,tT,tT,tT,fF,fF,tT,fF,fF] rfl rfl (any_of HT_.out (by kernel_rfl)) (fun _ _ _ h=>h) (Or.inl ⟨by rfl,?_⟩) ?_ ?_
        rotate_left
        ·intro w'
         go_simp
         with_reducible rfl
        rotate_left
        ·simp only [Act.put,sI,sZ,sS,i64_w,i32_w]
         rfl
        refine pure_ (i:=5) (N:=some 64) (v:=?_) (a':=?_) #[tT,tT,tT,tT,tT,tT,fF,tT,fF,fF] rfl rfl (any_of HT_.out (by kernel_rfl)) (fun _ _ _ h=>h) (Or.inl ⟨by rfl,?_⟩) ?_ ?_
        rotate_left
        ·intro w'
         go_simp
         with_reducible rfl
        rotate_left
        ·simp only [Act.put,sI,sZ,sS,i64_w,i32_w]
         rfl
        refine pure_ (i:=6) (N:=some 65) (v:=?_) (a':=?_) #[tT,tT,tT,tT,tT,tT,tT,tT,fF,fF] rfl rfl (any_of HT_.out (by kernel_rfl)) (fun _ _ _ h=>h) (Or.inl ⟨by rfl,?_⟩) ?_ ?_
        rotate_left
        ·intro w'
         go_simp
         with_reducible rfl
        rotate_left
        ·simp only [Act.put,sI,sZ,sS,i64_w,i32_w]
         rfl
        exact norm_ (by simp only [putAll,Act.put,sI,sZ,sS]) (hCont (gb232) _ ⟨hHeld,BK211.out,BK212.out,BK224.out,BK232.out,GW232.out,GE232.out,NB0_232.out,NB232_0.out,NB211_232.out,NB232_211.out,NB212_232.out,NB232_212.out,NB224_232.out,NB232_224.out,HI0.out,HK.out,HB.out⟩)
      ·skip
       refine box_step ?hg (N:=5) ?hd (cs:=#[.string ⟨#[]⟩,.string ⟨#[]⟩]) (t:=25) ?hr ?_;(case hd=>rfl);(case hg=>rfl);(case hr=>first|(go_simp;done)|(go_simp;rfl))
       intro gb232 hg w52 hbox hb
       have n0_:=aM (IsS57.below HI0.out hb)
       have n1_:=aM (blk_below (g:=gb211) (o:=.cells #[.string ⟨#[]⟩,.string ⟨#[]⟩] 25 (0,0)) BK211.out hb)
       have n2_:=aM (blk_below (g:=gb212) (o:=.cells #[.string ⟨#[]⟩,.string ⟨#[]⟩] 25 (0,0)) BK212.out hb)
       have n3_:=aM (blk_below (g:=gb224) (o:=.cells #[.int .i64 t220,.int .i64 t221] 59 (0,0)) BK224.out hb)
       have n4_:=aM (KeepBut.trans HK.out (KeepBut.of_below hb g none) (.inl rfl))
       have n5_:=aM (below_step HB.out hb)
       have n6_:=aM (hbox)
       have n7_:=aM ((by rw [hg];exact (keep_size (w:=w) (g:=g) (row:=none) HK.out):w.heap.size ≤ gb232))
       have n8_:=aM ((Nat.le_trans HW0.out (by rw [hg];exact (keep_size (w:=w) (g:=g) (row:=none) HK.out):w.heap.size ≤ gb232):w0.heap.size ≤ gb232))
       have n9_:=aM ((by rw [hg];exact Nat.ne_of_lt (blk_lt (g:=gb211) (o:=.cells #[.string ⟨#[]⟩,.string ⟨#[]⟩] 25 (0,0)) BK211.out):gb211 ≠ gb232))
       have n10_:=aM ((by rw [hg];exact Nat.ne_of_gt (blk_lt (g:=gb211) (o:=.cells #[.string ⟨#[]⟩,.string ⟨#[]⟩] 25 (0,0)) BK211.out):gb232 ≠ gb211))
       have n11_:=aM ((by rw [hg];exact Nat.ne_of_lt (blk_lt (g:=gb212) (o:=.cells #[.string ⟨#[]⟩,.string ⟨#[]⟩] 25 (0,0)) BK212.out):gb212 ≠ gb232))
       have n12_:=aM ((by rw [hg];exact Nat.ne_of_gt (blk_lt (g:=gb212) (o:=.cells #[.string ⟨#[]⟩,.string ⟨#[]⟩] 25 (0,0)) BK212.out):gb232 ≠ gb212))
       have n13_:=aM ((by rw [hg];exact Nat.ne_of_lt (blk_lt (g:=gb224) (o:=.cells #[.int .i64 t220,.int .i64 t221] 59 (0,0)) BK224.out):gb224 ≠ gb232))
       have n14_:=aM ((by rw [hg];exact Nat.ne_of_gt (blk_lt (g:=gb224) (o:=.cells #[.int .i64 t220,.int .i64 t221] 59 (0,0)) BK224.out):gb232 ≠ gb224))
       have n15_:=aM ((by rw [hg];exact Nat.ne_of_lt (IsS57.lt (show IsS57 w0 _ g s0_0 t222 t223 from HI0.out)):g ≠ gb232))
       have n16_:=aM ((by rw [hg];exact Nat.ne_of_gt (IsS57.lt (show IsS57 w0 _ g s0_0 t222 t223 from HI0.out)):gb232 ≠ g))
       clear HI0
       clear BK211
       clear BK212
       clear BK224
       clear HK
       clear HB
       have HI0:=n0_
       have BK211:=n1_
       have BK212:=n2_
       have BK224:=n3_
       have HK:=n4_
       have HB:=n5_
       have BK232:=n6_
       have GW232:=n7_
       have GE232:=n8_
       have NB211_232:=n9_
       have NB232_211:=n10_
       have NB212_232:=n11_
       have NB232_212:=n12_
       have NB224_232:=n13_
       have NB232_224:=n14_
       have NB0_232:=n15_
       have NB232_0:=n16_
       clear n0_ n1_ n2_ n3_ n4_ n5_ n6_ n7_ n8_ n9_ n10_ n11_ n12_ n13_ n14_ n15_ n16_
       clear hb hbox hg
       refine hK.out _ _ ⟨(blk_cell BK224.out 0).trans rfl,(blk_cell BK224.out 1).trans rfl⟩ (fun hHeld=>?_)
       clear hK K
       refine norm_ (a':=?_) ?_ ?_
       rotate_left
       ·show Act.put _ (some 5) _ = _
        simp only [Act.put,sI,sZ,sS,i64_w,i32_w]
        rfl
       refine one_ (i:=1) (N:=some 61) #[tT,tT,tT,fF,fF,fF,fF,tT,fF,fF] rfl rfl (one_of HT_.out (by kernel_rfl)) (by decide) (fun K hK=>?_)
       refine goes_ Try.func33 (by kernel_rfl) rfl #[.pointer (some ⟨g,0,none⟩)] (by rfl) rfl rfl (by (try simp only [sM,sC,sN]);first|done|rfl|(simp only [List.length_drop,List.length_take];rfl)) ?_
       with_reducible refine (spec_l01Draw.calls k g s0_0 t222 t223 t225 t226 t227 t228 w0 _ ?side1 ?side2 A18.out).mono ?_
       (case side1=>repeat (first|(with_reducible first|exact HI0.out|apply iA|apply iN|apply iD|apply IsS57.set_1|apply IsS57.set_2|refine IsS57.far ?_ NB0_211.out _|refine IsS57.far ?_ NB0_212.out _|refine IsS57.far ?_ NB0_224.out _|refine IsS57.far ?_ NB0_232.out _)|exact HI0.out))
       (case side2=>repeat (first|(with_reducible first|exact HB.out|apply zA|apply zN|apply zD|refine zS ?_ (IsS57.ge HI0.out)|refine zS ?_ GE211.out|refine zS ?_ GE212.out|refine zS ?_ GE224.out|refine zS ?_ GE232.out)|exact HB.out))
       rintro e w53 ⟨rfl,hi,hb,hk⟩
       refine ⟨_,rfl,?_⟩
       replace BK211:=aM (KeepBut.blk hk (g':=gb211) (o:=.cells #[.string ⟨#[]⟩,.string ⟨#[]⟩] 25 (0,0)) BK211.out NB211_0.out (by simp))
       replace BK212:=aM (KeepBut.blk hk (g':=gb212) (o:=.cells #[.string ⟨#[]⟩,.string ⟨#[]⟩] 25 (0,0)) BK212.out NB212_0.out (by simp))
       replace BK224:=aM (KeepBut.blk hk (g':=gb224) (o:=.cells #[.int .i64 t220,.int .i64 t221] 59 (0,0)) BK224.out NB224_0.out (by simp))
       replace BK232:=aM (KeepBut.blk hk (g':=gb232) (o:=.cells #[.string ⟨#[]⟩,.string ⟨#[]⟩] 25 (0,0)) BK232.out NB232_0.out (by simp))
       replace HK:=aM (KeepBut.trans HK.out hk (.inl rfl))
       replace HB:=aM (hb)
       replace HI0:=aM (hi)
       refine hK.out _ _ ⟨(blk_cell BK224.out 0).trans rfl,(blk_cell BK224.out 1).trans rfl⟩ (fun hHeld=>?_)
       clear hK K
       refine norm_ (a':=?_) ?_ ?_
       rotate_left
       ·show Act.put _ (some 61) _ = _
        simp only [Act.put,sI,sZ,sS,i64_w,i32_w]
        rfl
       refine one_ (i:=3) (N:=some 63) #[tT,tT,tT,tT,fF,fF,fF,tT,fF,fF] rfl rfl (one_of HT_.out (by kernel_rfl)) (by decide) (fun K hK=>?_)
       refine goes_ Try.func34 (by kernel_rfl) rfl #[.agg #[.int .i64 t225,.int .i64 t226],.agg #[.int .i64 t220,.int .i64 t221]] (by rfl) rfl rfl (by (try simp only [sM,sC,sN]);first|done|rfl|(simp only [List.length_drop,List.length_take];rfl)) ?_
       with_reducible refine (spec_l02Itinerary.calls k t225 t226 t220 t221 t229 t230 false _ A19.out).mono ?_
       rintro e w54 ⟨rfl,hb⟩
       refine ⟨_,rfl,?_⟩
       have n0_:=aM (IsS57.below HI0.out hb)
       have n1_:=aM (blk_below (g:=gb211) (o:=.cells #[.string ⟨#[]⟩,.string ⟨#[]⟩] 25 (0,0)) BK211.out hb)
       have n2_:=aM (blk_below (g:=gb212) (o:=.cells #[.string ⟨#[]⟩,.string ⟨#[]⟩] 25 (0,0)) BK212.out hb)
       have n3_:=aM (blk_below (g:=gb224) (o:=.cells #[.int .i64 t220,.int .i64 t221] 59 (0,0)) BK224.out hb)
       have n4_:=aM (blk_below (g:=gb232) (o:=.cells #[.string ⟨#[]⟩,.string ⟨#[]⟩] 25 (0,0)) BK232.out hb)
       have n5_:=aM (KeepBut.trans HK.out (KeepBut.of_below hb g none) (.inl rfl))
       have n6_:=aM (below_step HB.out hb)
       clear HI0
       clear BK211
       clear BK212
       clear BK224
       clear BK232
       clear HK
       clear HB
       have HI0:=n0_
       have BK211:=n1_
       have BK212:=n2_
       have BK224:=n3_
       have BK232:=n4_
       have HK:=n5_
       have HB:=n6_
       clear n0_ n1_ n2_ n3_ n4_ n5_ n6_
       refine hK.out _ _ ⟨(blk_cell BK224.out 0).trans rfl,(blk_cell BK224.out 1).trans rfl⟩ (fun hHeld=>?_)
       clear hK K
       refine norm_ (a':=?_) ?_ ?_
       rotate_left
       ·show Act.put _ (some 63) _ = _
        simp only [Act.put,sI,sZ,sS,i64_w,i32_w]
        rfl
       refine pure_ (i:=4) (N:=some 59) (v:=?_) (a':=?_) #[tT,tT,tT,tT,tT,fF,fF,tT,fF,fF] rfl rfl (any_of HT_.out (by kernel_rfl)) (fun _ _ _ h=>h) (Or.inl ⟨by rfl,?_⟩) ?_ ?_
       rotate_left
       ·intro w'
        go_simp
        with_reducible rfl
       rotate_left
       ·simp only [Act.put,sI,sZ,sS,i64_w,i32_w]
        rfl
       refine pure_ (i:=5) (N:=some 64) (v:=?_) (a':=?_) #[tT,tT,tT,tT,tT,tT,fF,tT,fF,fF] rfl rfl (any_of HT_.out (by kernel_rfl)) (fun _ _ _ h=>h) (Or.inl ⟨by rfl,?_⟩) ?_ ?_
       rotate_left
       ·intro w'
        go_simp
        with_reducible rfl
       rotate_left
       ·simp only [Act.put,sI,sZ,sS,i64_w,i32_w]
        rfl
       refine pure_ (i:=6) (N:=some 65) (v:=?_) (a':=?_) #[tT,tT,tT,tT,tT,tT,tT,tT,fF,fF] rfl rfl (any_of HT_.out (by kernel_rfl)) (fun _ _ _ h=>h) (Or.inl ⟨by rfl,?_⟩) ?_ ?_
       rotate_left
       ·intro w'
        go_simp
        with_reducible rfl
       rotate_left
       ·simp only [Act.put,sI,sZ,sS,i64_w,i32_w]
        rfl
       exact norm_ (by simp only [putAll,Act.put,sI,sZ,sS]) (hCont (gb232) _ ⟨hHeld,BK211.out,BK212.out,BK224.out,BK232.out,GW232.out,GE232.out,NB0_232.out,NB232_0.out,NB211_232.out,NB232_211.out,NB212_232.out,NB232_212.out,NB224_232.out,NB232_224.out,HI0.out,HK.out,HB.out⟩)
     rintro gb232 w55 ⟨hS_,h0_,h1_,h2_,h3_,h4_,h5_,h6_,h7_,h8_,h9_,h10_,h11_,h12_,h13_,h14_,h15_,h16_⟩
     have n0_:Aside0 (w55.heap[gb211]? = some (.cells #[.string ⟨#[]⟩,.string ⟨#[]⟩] 25 (0,0))):=⟨h0_⟩
     have n1_:Aside0 (w55.heap[gb212]? = some (.cells #[.string ⟨#[]⟩,.string ⟨#[]⟩] 25 (0,0))):=⟨h1_⟩
     have n2_:Aside0 (w55.heap[gb224]? = some (.cells #[.int .i64 t220,.int .i64 t221] 59 (0,0))):=⟨h2_⟩
     have n3_:Aside0 (w55.heap[gb232]? = some (.cells #[.string ⟨#[]⟩,.string ⟨#[]⟩] 25 (0,0))):=⟨h3_⟩
     have n4_:Aside0 (w.heap.size ≤ gb232):=⟨h4_⟩
     have n5_:Aside0 (w0.heap.size ≤ gb232):=⟨h5_⟩
     have n6_:Aside0 (g ≠ gb232):=⟨h6_⟩
     have n7_:Aside0 (gb232 ≠ g):=⟨h7_⟩
     have n8_:Aside0 (gb211 ≠ gb232):=⟨h8_⟩
     have n9_:Aside0 (gb232 ≠ gb211):=⟨h9_⟩
     have n10_:Aside0 (gb212 ≠ gb232):=⟨h10_⟩
     have n11_:Aside0 (gb232 ≠ gb212):=⟨h11_⟩
     have n12_:Aside0 (gb224 ≠ gb232):=⟨h12_⟩
     have n13_:Aside0 (gb232 ≠ gb224):=⟨h13_⟩
     have n14_:Aside0 (IsS57 w0 w55 g s0_0 t227 t228):=⟨h14_⟩
     have n15_:Aside0 (KeepBut w w55 g none):=⟨h15_⟩
     have n16_:Aside0 (Below w0.heap.size w0 w55):=⟨h16_⟩
     clear BK211
     clear BK212
     clear BK224
     clear HI0
     clear HK
     clear HB
     clear h0_ h1_ h2_ h3_ h4_ h5_ h6_ h7_ h8_ h9_ h10_ h11_ h12_ h13_ h14_ h15_ h16_
     have BK211:=n0_
     have BK212:=n1_
     have BK224:=n2_
     have BK232:=n3_
     have GW232:=n4_
     have GE232:=n5_
     have NB0_232:=n6_
     have NB232_0:=n7_
     have NB211_232:=n8_
     have NB232_211:=n9_
     have NB212_232:=n10_
     have NB232_212:=n11_
     have NB224_232:=n12_
     have NB232_224:=n13_
     have HI0:=n14_
     have HK:=n15_
     have HB:=n16_
     clear n0_ n1_ n2_ n3_ n4_ n5_ n6_ n7_ n8_ n9_ n10_ n11_ n12_ n13_ n14_ n15_ n16_
     have hHeld:w55.cell? ⟨gb224,0,none⟩ = some (.int .i64 t220) ∧ w55.cell? ⟨gb224,1,none⟩ = some (.int .i64 t221):=hS_
     refine norm_ (a':=?_) ?_ ?_
     rotate_left
     ·simp only [putAll,Act.put,sI,sZ,sS]
      rfl
     refine one_ (i:=8) (N:=none) #[tT,tT,tT,tT,tT,tT,tT,tT,tT,fF] rfl rfl (one_of HT_.out (by kernel_rfl)) (by decide) (fun K hK=>?_)
     have hs56:w55.cell? ⟨gb232,0,none⟩ = some (.string ⟨#[]⟩):=(blk_cell BK232.out 0).trans rfl
     have hfs56:=blk_frozen BK232.out 0
     have hns56_0:=NB211_232.out
     have hns56_1:=NB212_232.out
     have hns56_2:=NB224_232.out
     have hms56_0:=NB232_211.out
     have hms56_1:=NB232_212.out
     have hms56_2:=NB232_224.out
     have hs57:w55.cell? ⟨gb232,1,none⟩ = some (.string ⟨#[]⟩):=(blk_cell BK232.out 1).trans rfl
     have hfs57:=blk_frozen BK232.out 1
     have hns57_0:=NB211_232.out
     have hns57_1:=NB212_232.out
     have hns57_2:=NB224_232.out
     have hms57_0:=NB232_211.out
     have hms57_1:=NB232_212.out
     have hms57_2:=NB232_224.out
     refine skip_ (w1:=?_) (by rfl) rfl ?_ ?_
     rotate_left
     ·go_simp
      rfl
     refine hK.out _ _ ⟨((cell_far (p:=⟨gb232,_,none⟩) NB224_232.out _).trans (((cell_far (p:=⟨gb232,_,none⟩) NB224_232.out _).trans (hHeld.1)))),((cell_far (p:=⟨gb232,_,none⟩) NB224_232.out _).trans (((cell_far (p:=⟨gb232,_,none⟩) NB224_232.out _).trans (hHeld.2))))⟩ (fun hHeld=>?_)
     clear hK K
     refine pure_ (i:=9) (N:=some 6) (v:=?_) (a':=?_) #[tT,tT,tT,tT,tT,tT,tT,tT,tT,tT] rfl rfl (any_of HT_.out (by kernel_rfl)) (fun _ _ _ h=>h) (Or.inl ⟨by rfl,?_⟩) ?_ ?_
     rotate_left
     ·intro w'
      go_simp
      with_reducible rfl
     rotate_left
     ·simp only [Act.put,sI,sZ,sS,i64_w,i32_w]
      rfl
     refine done_ (done_of HT_.out (by kernel_rfl)) ?_
     try go_wp2_with (first|((with_reducible refine gate_callee (f:=32) rfl ?_);refine goesL_ (some 69) rfl rfl Try.func32 (by kernel_rfl) rfl #[.pointer (some ⟨g,0,none⟩)] rfl (by (try simp only [sM,sC,sN]);first|done|rfl|(simp only [List.length_drop,List.length_take];rfl)) ?_;(with_reducible refine (spec_l02Star1.calls k g s0_0 t227 t228 t233 t234 t235 t236 w0 _ ?side1 ?side2 A43.out).mono ?_);(case side1=>repeat (first|(with_reducible first|exact HI0.out|apply iA|apply iN|apply iD|apply IsS57.set_1|apply IsS57.set_2|refine IsS57.far ?_ NB0_211.out _|refine IsS57.far ?_ NB0_212.out _|refine IsS57.far ?_ NB0_224.out _|refine IsS57.far ?_ NB0_232.out _)|exact HI0.out));(case side2=>repeat (first|(with_reducible first|exact HB.out|apply zA|apply zN|apply zD|refine zS ?_ (IsS57.ge HI0.out)|refine zS ?_ GE211.out|refine zS ?_ GE212.out|refine zS ?_ GE224.out|refine zS ?_ GE232.out)|exact HB.out));rintro e w58 ⟨rfl,hi,hb,hk⟩;refine ⟨_,rfl,?_⟩;replace BK211:=aM (KeepBut.blk hk (g':=gb211) (o:=.cells #[.string ⟨#[]⟩,.string ⟨#[]⟩] 25 (0,0)) (by (with_reducible repeat (first|refine yN ?_ _|refine yD ?_|refine yA ?_ _));refine blk_far ?_ NB211_232.out _;(with_reducible repeat (first|refine yN ?_ _|refine yD ?_|refine yA ?_ _));refine blk_far ?_ NB211_232.out _;(with_reducible repeat (first|refine yN ?_ _|refine yD ?_|refine yA ?_ _));exact BK211.out) NB211_0.out (by simp));replace BK212:=aM (KeepBut.blk hk (g':=gb212) (o:=.cells #[.string ⟨#[]⟩,.string ⟨#[]⟩] 25 (0,0)) (by (with_reducible repeat (first|refine yN ?_ _|refine yD ?_|refine yA ?_ _));refine blk_far ?_ NB212_232.out _;(with_reducible repeat (first|refine yN ?_ _|refine yD ?_|refine yA ?_ _));refine blk_far ?_ NB212_232.out _;(with_reducible repeat (first|refine yN ?_ _|refine yD ?_|refine yA ?_ _));exact BK212.out) NB212_0.out (by simp));replace BK224:=aM (KeepBut.blk hk (g':=gb224) (o:=.cells #[.int .i64 t220,.int .i64 t221] 59 (0,0)) (by (with_reducible repeat (first|refine yN ?_ _|refine yD ?_|refine yA ?_ _));refine blk_far ?_ NB224_232.out _;(with_reducible repeat (first|refine yN ?_ _|refine yD ?_|refine yA ?_ _));refine blk_far ?_ NB224_232.out _;(with_reducible repeat (first|refine yN ?_ _|refine yD ?_|refine yA ?_ _));exact BK224.out) NB224_0.out (by simp));replace BK232:=aM (KeepBut.blk hk (g':=gb232) (o:=.cells #[.string t229,.string t230] 25 (0,0)) (by (with_reducible repeat (first|refine yN ?_ _|refine yD ?_|refine yA ?_ _));refine blk_put (cs:=#[.string t229,.string ⟨#[]⟩]) ?_ 1 _ rfl;(with_reducible repeat (first|refine yN ?_ _|refine yD ?_|refine yA ?_ _));refine blk_put (cs:=#[.string ⟨#[]⟩,.string ⟨#[]⟩]) ?_ 0 _ rfl;(with_reducible repeat (first|refine yN ?_ _|refine yD ?_|refine yA ?_ _));exact BK232.out) NB232_0.out (by simp));replace HK:=aM (KeepBut.trans (by repeat (first|(with_reducible first|exact HK.out|apply kS|apply kN|apply kD|apply kA|refine kF ?_ GW211.out _|refine kF ?_ GW212.out _|refine kF ?_ GW224.out _|refine kF ?_ GW232.out _)|exact HK.out)) hk (.inl rfl));replace HB:=aM (hb);replace HI0:=aM (hi);(try clear hb);(try clear hb2);(try clear hk);(try clear hi);have hnb59:=NB212_211.out;have hnc59:=NB211_212.out;have hnb60:=NB212_232.out;have hnc60:=NB232_212.out;have hnb61:=NB212_0.out;have hnc61:=NB0_212.out;have hcz62_0:w58.cell? ⟨gb212,0,none⟩ = some (.string ⟨#[]⟩):=(blk_cell BK212.out 0).trans rfl;have hcz62_1:w58.cell? ⟨gb212,1,none⟩ = some (.string ⟨#[]⟩):=(blk_cell BK212.out 1).trans rfl;have hfz62_0:=blk_frozen BK212.out 0;have hfz62_1:=blk_frozen BK212.out 1))
     go_meet
     case rel=>exact ⟨_,(t235),(t236),(t233),(t234),H',⟨by first|omega|exact Nat.le_refl _⟩,⟨by (with_reducible repeat (first|refine yN ?_ _|refine yD ?_|refine yA ?_ _));refine blk_far ?_ NB211_212.out _;(with_reducible repeat (first|refine yN ?_ _|refine yD ?_|refine yA ?_ _));refine blk_far ?_ NB211_212.out _;(with_reducible repeat (first|refine yN ?_ _|refine yD ?_|refine yA ?_ _));exact BK211.out⟩,⟨by (with_reducible repeat (first|refine yN ?_ _|refine yD ?_|refine yA ?_ _));refine blk_put (cs:=#[.string t233,.string ⟨#[]⟩]) ?_ 1 _ rfl;(with_reducible repeat (first|refine yN ?_ _|refine yD ?_|refine yA ?_ _));refine blk_put (cs:=#[.string ⟨#[]⟩,.string ⟨#[]⟩]) ?_ 0 _ rfl;(with_reducible repeat (first|refine yN ?_ _|refine yD ?_|refine yA ?_ _));exact BK212.out⟩,⟨by repeat (first|(with_reducible first|exact HI0.out|apply iA|apply iN|apply iD|apply IsS57.set_1|apply IsS57.set_2|refine IsS57.far ?_ NB0_211.out _|refine IsS57.far ?_ NB0_212.out _|refine IsS57.far ?_ NB0_224.out _|refine IsS57.far ?_ NB0_232.out _)|exact HI0.out)⟩,⟨by repeat (first|(with_reducible first|exact HK.out|apply kS|apply kN|apply kD|apply kA|refine kF ?_ GW211.out _|refine kF ?_ GW212.out _|refine kF ?_ GW224.out _|refine kF ?_ GW232.out _)|exact HK.out)⟩,⟨by repeat (first|(with_reducible first|exact HB.out|apply zA|apply zN|apply zD|refine zS ?_ (IsS57.ge HI0.out)|refine zS ?_ GE211.out|refine zS ?_ GE212.out|refine zS ?_ GE224.out|refine zS ?_ GE232.out)|exact HB.out)⟩⟩
   ·rw [if_neg c16] at H
    have c16b0:(t213 == 1) = false:=beq_eq_false_iff_ne.mpr c16
    have c16b1:(t213 != 1) = true:=bne_iff_ne.mpr c16
    by_cases c63:t213 = 2
    ·rw [if_pos c63] at H
     have c63b0:(t213 == 2) = true:=beq_iff_eq.mpr c63
     have c63b1:(t213 != 2) = false:=bne_eq_false_iff_eq.mpr c63
     clear c63
     replace H:=Option.bind_eq_some_iff.mp H
     obtain ⟨⟨t237,t238,t239,t240⟩,A640,H⟩:=H
     replace H:((spec_l02Itinerary.f k t237 t238 t237 t238).bind fun bt242=>(if bt242.2.2 = true then (spec_l02Draw.j2 k s0_0 t239 t240 bt242.1 bt242.2.1) else ((spec_l02Star1.f k s0_0 t239 t240).bind fun bt246=>(spec_l02Draw.j2 k s0_0 bt246.2.2.1 bt246.2.2.2 bt246.1 bt246.2.1)))) = some (r1,r2,r3,r4):=H
     have A64:=aM A640
     clear A640
     replace H:=Option.bind_eq_some_iff.mp H
     obtain ⟨⟨t242,t243,t244⟩,A650,H⟩:=H
     replace H:(if t244 = true then (spec_l02Draw.j2 k s0_0 t239 t240 t242 t243) else ((spec_l02Star1.f k s0_0 t239 t240).bind fun bt246=>(spec_l02Draw.j2 k s0_0 bt246.2.2.1 bt246.2.2.2 bt246.1 bt246.2.1))) = some (r1,r2,r3,r4):=H
     have A65:=aM A650
     clear A650
     by_cases c66:t244 = true
     ·subst c66
      have H1:(spec_l02Draw.j2 k s0_0 t239 t240 t242 t243) = some (r1,r2,r3,r4):=by rw [if_pos rfl] at H;exact H
      clear H
      have H:=H1
      clear H1
      have H':=aM H
      clear H
      go_wp2_with (first|((with_reducible refine gate_callee (f:=33) rfl ?_);refine goesL_ (some 73) rfl rfl Try.func33 (by kernel_rfl) rfl #[.pointer (some ⟨g,0,none⟩)] rfl (by (try simp only [sM,sC,sN]);first|done|rfl|(simp only [List.length_drop,List.length_take];rfl)) ?_;(with_reducible refine (spec_l01Draw.calls k g s0_0 t214 t215 t237 t238 t239 t240 w0 _ ?side1 ?side2 A64.out).mono ?_);(case side1=>repeat (first|(with_reducible first|exact HI0.out|apply iA|apply iN|apply iD|apply IsS57.set_1|apply IsS57.set_2|refine IsS57.far ?_ NB0_211.out _|refine IsS57.far ?_ NB0_212.out _)|exact HI0.out));(case side2=>repeat (first|(with_reducible first|exact HB.out|apply zA|apply zN|apply zD|refine zS ?_ (IsS57.ge HI0.out)|refine zS ?_ GE211.out|refine zS ?_ GE212.out)|exact HB.out));rintro e w67 ⟨rfl,hi,hb,hk⟩;refine ⟨_,rfl,?_⟩;replace BK211:=aM (KeepBut.blk hk (g':=gb211) (o:=.cells #[.string ⟨#[]⟩,.string ⟨#[]⟩] 25 (0,0)) (by (with_reducible repeat (first|refine yN ?_ _|refine yD ?_|refine yA ?_ _));exact BK211.out) NB211_0.out (by simp));replace BK212:=aM (KeepBut.blk hk (g':=gb212) (o:=.cells #[.string ⟨#[]⟩,.string ⟨#[]⟩] 25 (0,0)) (by (with_reducible repeat (first|refine yN ?_ _|refine yD ?_|refine yA ?_ _));exact BK212.out) NB212_0.out (by simp));replace HK:=aM (KeepBut.trans (by repeat (first|(with_reducible first|exact HK.out|apply kS|apply kN|apply kD|apply kA|refine kF ?_ GW211.out _|refine kF ?_ GW212.out _)|exact HK.out)) hk (.inl rfl));replace HB:=aM (hb);replace HI0:=aM (hi);(try clear hb);(try clear hb2);(try clear hk);(try clear hi))|((with_reducible refine gate_dst (N:=7) rfl ?_);refine box_event ?hg (N:=7) ?hd (cs:=#[.int .i64 0,.int .i64 0]) (t:=59) ?hr ?_;(case hd=>rfl);(case hg=>rfl);(case hr=>first|(go_simp;done)|(go_simp;rfl));intro gb241 hg w68 hbox hb;have n0_:=aM (IsS57.below (by repeat (first|(with_reducible first|exact HI0.out|apply iA|apply iN|apply iD|apply IsS57.set_1|apply IsS57.set_2|refine IsS57.far ?_ NB0_211.out _|refine IsS57.far ?_ NB0_212.out _)|exact HI0.out)) hb);have n1_:=aM (blk_below (g:=gb211) (o:=.cells #[.string ⟨#[]⟩,.string ⟨#[]⟩] 25 (0,0)) (by (with_reducible repeat (first|refine yN ?_ _|refine yD ?_|refine yA ?_ _));exact BK211.out) hb);have n2_:=aM (blk_below (g:=gb212) (o:=.cells #[.string ⟨#[]⟩,.string ⟨#[]⟩] 25 (0,0)) (by (with_reducible repeat (first|refine yN ?_ _|refine yD ?_|refine yA ?_ _));exact BK212.out) hb);have n3_:=aM (KeepBut.trans (by repeat (first|(with_reducible first|exact HK.out|apply kS|apply kN|apply kD|apply kA|refine kF ?_ GW211.out _|refine kF ?_ GW212.out _)|exact HK.out)) (KeepBut.of_below hb g none) (.inl rfl));have n4_:=aM (below_step (by repeat (first|(with_reducible first|exact HB.out|apply zA|apply zN|apply zD|refine zS ?_ (IsS57.ge HI0.out)|refine zS ?_ GE211.out|refine zS ?_ GE212.out)|exact HB.out)) hb);have n5_:=aM (hbox);have n6_:=aM ((by rw [hg];exact (keep_size (w:=w) (g:=g) (row:=none) (by repeat (first|(with_reducible first|exact HK.out|apply kS|apply kN|apply kD|apply kA|refine kF ?_ GW211.out _|refine kF ?_ GW212.out _)|exact HK.out))):w.heap.size ≤ gb241));have n7_:=aM ((Nat.le_trans HW0.out (by rw [hg];exact (keep_size (w:=w) (g:=g) (row:=none) (by repeat (first|(with_reducible first|exact HK.out|apply kS|apply kN|apply kD|apply kA|refine kF ?_ GW211.out _|refine kF ?_ GW212.out _)|exact HK.out))):w.heap.size ≤ gb241):w0.heap.size ≤ gb241));have n8_:=aM ((by rw [hg];exact Nat.ne_of_lt (blk_lt (g:=gb211) (o:=.cells #[.string ⟨#[]⟩,.string ⟨#[]⟩] 25 (0,0)) (by (with_reducible repeat (first|refine yN ?_ _|refine yD ?_|refine yA ?_ _));exact BK211.out)):gb211 ≠ gb241));have n9_:=aM ((by rw [hg];exact Nat.ne_of_gt (blk_lt (g:=gb211) (o:=.cells #[.string ⟨#[]⟩,.string ⟨#[]⟩] 25 (0,0)) (by (with_reducible repeat (first|refine yN ?_ _|refine yD ?_|refine yA ?_ _));exact BK211.out)):gb241 ≠ gb211));have n10_:=aM ((by rw [hg];exact Nat.ne_of_lt (blk_lt (g:=gb212) (o:=.cells #[.string ⟨#[]⟩,.string ⟨#[]⟩] 25 (0,0)) (by (with_reducible repeat (first|refine yN ?_ _|refine yD ?_|refine yA ?_ _));exact BK212.out)):gb212 ≠ gb241));have n11_:=aM ((by rw [hg];exact Nat.ne_of_gt (blk_lt (g:=gb212) (o:=.cells #[.string ⟨#[]⟩,.string ⟨#[]⟩] 25 (0,0)) (by (with_reducible repeat (first|refine yN ?_ _|refine yD ?_|refine yA ?_ _));exact BK212.out)):gb241 ≠ gb212));have n12_:=aM ((by rw [hg];exact Nat.ne_of_lt (IsS57.lt (show IsS57 w0 _ g s0_0 t239 t240 from by repeat (first|(with_reducible first|exact HI0.out|apply iA|apply iN|apply iD|apply IsS57.set_1|apply IsS57.set_2|refine IsS57.far ?_ NB0_211.out _|refine IsS57.far ?_ NB0_212.out _)|exact HI0.out))):g ≠ gb241));have n13_:=aM ((by rw [hg];exact Nat.ne_of_gt (IsS57.lt (show IsS57 w0 _ g s0_0 t239 t240 from by repeat (first|(with_reducible first|exact HI0.out|apply iA|apply iN|apply iD|apply IsS57.set_1|apply IsS57.set_2|refine IsS57.far ?_ NB0_211.out _|refine IsS57.far ?_ NB0_212.out _)|exact HI0.out))):gb241 ≠ g));clear HI0;clear BK211;clear BK212;clear HK;clear HB;have HI0:=n0_;have BK211:=n1_;have BK212:=n2_;have HK:=n3_;have HB:=n4_;have BK241:=n5_;have GW241:=n6_;have GE241:=n7_;have NB211_241:=n8_;have NB241_211:=n9_;have NB212_241:=n10_;have NB241_212:=n11_;have NB0_241:=n12_;have NB241_0:=n13_;clear n0_ n1_ n2_ n3_ n4_ n5_ n6_ n7_ n8_ n9_ n10_ n11_ n12_ n13_;clear hb hbox hg;have hnb69:=NB241_211.out;have hnc69:=NB211_241.out;have hnb70:=NB241_212.out;have hnc70:=NB212_241.out;have hnb71:=NB241_0.out;have hnc71:=NB0_241.out;have hcz72_0:w68.cell? ⟨gb241,0,none⟩ = some (.int .i64 0):=(blk_cell BK241.out 0).trans rfl;have hcz72_1:w68.cell? ⟨gb241,1,none⟩ = some (.int .i64 0):=(blk_cell BK241.out 1).trans rfl;have hfz72_0:=blk_frozen BK241.out 0;have hfz72_1:=blk_frozen BK241.out 1)|((with_reducible refine gate_callee (f:=34) rfl ?_);refine goesL_ (some 77) rfl rfl Try.func34 (by kernel_rfl) rfl #[.agg #[.int .i64 t237,.int .i64 t238],.agg #[.int .i64 t237,.int .i64 t238]] rfl (by (try simp only [sM,sC,sN]);first|done|rfl|(simp only [List.length_drop,List.length_take];rfl)) ?_;(with_reducible refine (spec_l02Itinerary.calls k t237 t238 t237 t238 t242 t243 true _ A65.out).mono ?_);rintro e w73 ⟨rfl,hb⟩;refine ⟨_,rfl,?_⟩;have n0_:=aM (IsS57.below (show IsS57 w0 ((w68.setCell ⟨gb241,0,none⟩ (.int .i64 t237)).setCell ⟨gb241,1,none⟩ (.int .i64 t238)) g s0_0 t239 t240 from by repeat (first|(with_reducible first|exact HI0.out|apply iA|apply iN|apply iD|apply IsS57.set_1|apply IsS57.set_2|refine IsS57.far ?_ NB0_211.out _|refine IsS57.far ?_ NB0_212.out _|refine IsS57.far ?_ NB0_241.out _)|exact HI0.out)) hb);have n1_:=aM (blk_below (g:=gb211) (o:=.cells #[.string ⟨#[]⟩,.string ⟨#[]⟩] 25 (0,0)) (by (with_reducible repeat (first|refine yN ?_ _|refine yD ?_|refine yA ?_ _));refine blk_far ?_ NB211_241.out _;(with_reducible repeat (first|refine yN ?_ _|refine yD ?_|refine yA ?_ _));refine blk_far ?_ NB211_241.out _;(with_reducible repeat (first|refine yN ?_ _|refine yD ?_|refine yA ?_ _));exact BK211.out) hb);have n2_:=aM (blk_below (g:=gb212) (o:=.cells #[.string ⟨#[]⟩,.string ⟨#[]⟩] 25 (0,0)) (by (with_reducible repeat (first|refine yN ?_ _|refine yD ?_|refine yA ?_ _));refine blk_far ?_ NB212_241.out _;(with_reducible repeat (first|refine yN ?_ _|refine yD ?_|refine yA ?_ _));refine blk_far ?_ NB212_241.out _;(with_reducible repeat (first|refine yN ?_ _|refine yD ?_|refine yA ?_ _));exact BK212.out) hb);have n3_:=aM (blk_below (g:=gb241) (o:=.cells #[.int .i64 t237,.int .i64 t238] 59 (0,0)) (by (with_reducible repeat (first|refine yN ?_ _|refine yD ?_|refine yA ?_ _));refine blk_put (cs:=#[.int .i64 t237,.int .i64 0]) ?_ 1 _ rfl;(with_reducible repeat (first|refine yN ?_ _|refine yD ?_|refine yA ?_ _));refine blk_put (cs:=#[.int .i64 0,.int .i64 0]) ?_ 0 _ rfl;(with_reducible repeat (first|refine yN ?_ _|refine yD ?_|refine yA ?_ _));exact BK241.out) hb);have n4_:=aM (KeepBut.trans (by repeat (first|(with_reducible first|exact HK.out|apply kS|apply kN|apply kD|apply kA|refine kF ?_ GW211.out _|refine kF ?_ GW212.out _|refine kF ?_ GW241.out _)|exact HK.out)) (KeepBut.of_below hb g none) (.inl rfl));have n5_:=aM (below_step (by repeat (first|(with_reducible first|exact HB.out|apply zA|apply zN|apply zD|refine zS ?_ (IsS57.ge HI0.out)|refine zS ?_ GE211.out|refine zS ?_ GE212.out|refine zS ?_ GE241.out)|exact HB.out)) hb);clear HI0;clear BK211;clear BK212;clear BK241;clear HK;clear HB;have HI0:=n0_;have BK211:=n1_;have BK212:=n2_;have BK241:=n3_;have HK:=n4_;have HB:=n5_;clear n0_ n1_ n2_ n3_ n4_ n5_;(try clear hb);(try clear hb2);(try clear hk);(try clear hi))|((with_reducible refine gate_dst (N:=8) rfl ?_);refine box_event ?hg (N:=8) ?hd (cs:=#[.string ⟨#[]⟩,.string ⟨#[]⟩]) (t:=25) ?hr ?_;(case hd=>rfl);(case hg=>rfl);(case hr=>first|(go_simp;done)|(go_simp;rfl));intro gb245 hg w74 hbox hb;have n0_:=aM (IsS57.below (by repeat (first|(with_reducible first|exact HI0.out|apply iA|apply iN|apply iD|apply IsS57.set_1|apply IsS57.set_2|refine IsS57.far ?_ NB0_211.out _|refine IsS57.far ?_ NB0_212.out _|refine IsS57.far ?_ NB0_241.out _)|exact HI0.out)) hb);have n1_:=aM (blk_below (g:=gb211) (o:=.cells #[.string ⟨#[]⟩,.string ⟨#[]⟩] 25 (0,0)) (by (with_reducible repeat (first|refine yN ?_ _|refine yD ?_|refine yA ?_ _));exact BK211.out) hb);have n2_:=aM (blk_below (g:=gb212) (o:=.cells #[.string ⟨#[]⟩,.string ⟨#[]⟩] 25 (0,0)) (by (with_reducible repeat (first|refine yN ?_ _|refine yD ?_|refine yA ?_ _));exact BK212.out) hb);have n3_:=aM (blk_below (g:=gb241) (o:=.cells #[.int .i64 t237,.int .i64 t238] 59 (0,0)) (by (with_reducible repeat (first|refine yN ?_ _|refine yD ?_|refine yA ?_ _));exact BK241.out) hb);have n4_:=aM (KeepBut.trans (by repeat (first|(with_reducible first|exact HK.out|apply kS|apply kN|apply kD|apply kA|refine kF ?_ GW211.out _|refine kF ?_ GW212.out _|refine kF ?_ GW241.out _)|exact HK.out)) (KeepBut.of_below hb g none) (.inl rfl));have n5_:=aM (below_step (by repeat (first|(with_reducible first|exact HB.out|apply zA|apply zN|apply zD|refine zS ?_ (IsS57.ge HI0.out)|refine zS ?_ GE211.out|refine zS ?_ GE212.out|refine zS ?_ GE241.out)|exact HB.out)) hb);have n6_:=aM (hbox);have n7_:=aM ((by rw [hg];exact (keep_size (w:=w) (g:=g) (row:=none) (by repeat (first|(with_reducible first|exact HK.out|apply kS|apply kN|apply kD|apply kA|refine kF ?_ GW211.out _|refine kF ?_ GW212.out _|refine kF ?_ GW241.out _)|exact HK.out))):w.heap.size ≤ gb245));have n8_:=aM ((Nat.le_trans HW0.out (by rw [hg];exact (keep_size (w:=w) (g:=g) (row:=none) (by repeat (first|(with_reducible first|exact HK.out|apply kS|apply kN|apply kD|apply kA|refine kF ?_ GW211.out _|refine kF ?_ GW212.out _|refine kF ?_ GW241.out _)|exact HK.out))):w.heap.size ≤ gb245):w0.heap.size ≤ gb245));have n9_:=aM ((by rw [hg];exact Nat.ne_of_lt (blk_lt (g:=gb211) (o:=.cells #[.string ⟨#[]⟩,.string ⟨#[]⟩] 25 (0,0)) (by (with_reducible repeat (first|refine yN ?_ _|refine yD ?_|refine yA ?_ _));exact BK211.out)):gb211 ≠ gb245));have n10_:=aM ((by rw [hg];exact Nat.ne_of_gt (blk_lt (g:=gb211) (o:=.cells #[.string ⟨#[]⟩,.string ⟨#[]⟩] 25 (0,0)) (by (with_reducible repeat (first|refine yN ?_ _|refine yD ?_|refine yA ?_ _));exact BK211.out)):gb245 ≠ gb211));have n11_:=aM ((by rw [hg];exact Nat.ne_of_lt (blk_lt (g:=gb212) (o:=.cells #[.string ⟨#[]⟩,.string ⟨#[]⟩] 25 (0,0)) (by (with_reducible repeat (first|refine yN ?_ _|refine yD ?_|refine yA ?_ _));exact BK212.out)):gb212 ≠ gb245));have n12_:=aM ((by rw [hg];exact Nat.ne_of_gt (blk_lt (g:=gb212) (o:=.cells #[.string ⟨#[]⟩,.string ⟨#[]⟩] 25 (0,0)) (by (with_reducible repeat (first|refine yN ?_ _|refine yD ?_|refine yA ?_ _));exact BK212.out)):gb245 ≠ gb212));have n13_:=aM ((by rw [hg];exact Nat.ne_of_lt (blk_lt (g:=gb241) (o:=.cells #[.int .i64 t237,.int .i64 t238] 59 (0,0)) (by (with_reducible repeat (first|refine yN ?_ _|refine yD ?_|refine yA ?_ _));exact BK241.out)):gb241 ≠ gb245));have n14_:=aM ((by rw [hg];exact Nat.ne_of_gt (blk_lt (g:=gb241) (o:=.cells #[.int .i64 t237,.int .i64 t238] 59 (0,0)) (by (with_reducible repeat (first|refine yN ?_ _|refine yD ?_|refine yA ?_ _));exact BK241.out)):gb245 ≠ gb241));have n15_:=aM ((by rw [hg];exact Nat.ne_of_lt (IsS57.lt (show IsS57 w0 _ g s0_0 t239 t240 from by repeat (first|(with_reducible first|exact HI0.out|apply iA|apply iN|apply iD|apply IsS57.set_1|apply IsS57.set_2|refine IsS57.far ?_ NB0_211.out _|refine IsS57.far ?_ NB0_212.out _|refine IsS57.far ?_ NB0_241.out _)|exact HI0.out))):g ≠ gb245));have n16_:=aM ((by rw [hg];exact Nat.ne_of_gt (IsS57.lt (show IsS57 w0 _ g s0_0 t239 t240 from by repeat (first|(with_reducible first|exact HI0.out|apply iA|apply iN|apply iD|apply IsS57.set_1|apply IsS57.set_2|refine IsS57.far ?_ NB0_211.out _|refine IsS57.far ?_ NB0_212.out _|refine IsS57.far ?_ NB0_241.out _)|exact HI0.out))):gb245 ≠ g));clear HI0;clear BK211;clear BK212;clear BK241;clear HK;clear HB;have HI0:=n0_;have BK211:=n1_;have BK212:=n2_;have BK241:=n3_;have HK:=n4_;have HB:=n5_;have BK245:=n6_;have GW245:=n7_;have GE245:=n8_;have NB211_245:=n9_;have NB245_211:=n10_;have NB212_245:=n11_;have NB245_212:=n12_;have NB241_245:=n13_;have NB245_241:=n14_;have NB0_245:=n15_;have NB245_0:=n16_;clear n0_ n1_ n2_ n3_ n4_ n5_ n6_ n7_ n8_ n9_ n10_ n11_ n12_ n13_ n14_ n15_ n16_;clear hb hbox hg;have hnb75:=NB245_211.out;have hnc75:=NB211_245.out;have hnb76:=NB245_212.out;have hnc76:=NB212_245.out;have hnb77:=NB245_241.out;have hnc77:=NB241_245.out;have hnb78:=NB245_0.out;have hnc78:=NB0_245.out;have hcz79_0:w74.cell? ⟨gb245,0,none⟩ = some (.string ⟨#[]⟩):=(blk_cell BK245.out 0).trans rfl;have hcz79_1:w74.cell? ⟨gb245,1,none⟩ = some (.string ⟨#[]⟩):=(blk_cell BK245.out 1).trans rfl;have hfz79_0:=blk_frozen BK245.out 0;have hfz79_1:=blk_frozen BK245.out 1;have hnb80:=NB212_211.out;have hnc80:=NB211_212.out;have hnb81:=NB212_0.out;have hnc81:=NB0_212.out;have hcz82_0:w74.cell? ⟨gb212,0,none⟩ = some (.string ⟨#[]⟩):=(blk_cell BK212.out 0).trans rfl;have hcz82_1:w74.cell? ⟨gb212,1,none⟩ = some (.string ⟨#[]⟩):=(blk_cell BK212.out 1).trans rfl;have hfz82_0:=blk_frozen BK212.out 0;have hfz82_1:=blk_frozen BK212.out 1))
      go_meet
      case rel=>exact ⟨_,(t239),(t240),(t242),(t243),H',⟨by first|omega|exact Nat.le_refl _⟩,⟨by (with_reducible repeat (first|refine yN ?_ _|refine yD ?_|refine yA ?_ _));refine blk_far ?_ NB211_212.out _;(with_reducible repeat (first|refine yN ?_ _|refine yD ?_|refine yA ?_ _));refine blk_far ?_ NB211_212.out _;(with_reducible repeat (first|refine yN ?_ _|refine yD ?_|refine yA ?_ _));refine blk_far ?_ NB211_245.out _;(with_reducible repeat (first|refine yN ?_ _|refine yD ?_|refine yA ?_ _));refine blk_far ?_ NB211_245.out _;(with_reducible repeat (first|refine yN ?_ _|refine yD ?_|refine yA ?_ _));exact BK211.out⟩,⟨by (with_reducible repeat (first|refine yN ?_ _|refine yD ?_|refine yA ?_ _));refine blk_put (cs:=#[.string t242,.string ⟨#[]⟩]) ?_ 1 _ rfl;(with_reducible repeat (first|refine yN ?_ _|refine yD ?_|refine yA ?_ _));refine blk_put (cs:=#[.string ⟨#[]⟩,.string ⟨#[]⟩]) ?_ 0 _ rfl;(with_reducible repeat (first|refine yN ?_ _|refine yD ?_|refine yA ?_ _));refine blk_far ?_ NB212_245.out _;(with_reducible repeat (first|refine yN ?_ _|refine yD ?_|refine yA ?_ _));refine blk_far ?_ NB212_245.out _;(with_reducible repeat (first|refine yN ?_ _|refine yD ?_|refine yA ?_ _));exact BK212.out⟩,⟨by repeat (first|(with_reducible first|exact HI0.out|apply iA|apply iN|apply iD|apply IsS57.set_1|apply IsS57.set_2|refine IsS57.far ?_ NB0_211.out _|refine IsS57.far ?_ NB0_212.out _|refine IsS57.far ?_ NB0_241.out _|refine IsS57.far ?_ NB0_245.out _)|exact HI0.out)⟩,⟨by repeat (first|(with_reducible first|exact HK.out|apply kS|apply kN|apply kD|apply kA|refine kF ?_ GW211.out _|refine kF ?_ GW212.out _|refine kF ?_ GW241.out _|refine kF ?_ GW245.out _)|exact HK.out)⟩,⟨by repeat (first|(with_reducible first|exact HB.out|apply zA|apply zN|apply zD|refine zS ?_ (IsS57.ge HI0.out)|refine zS ?_ GE211.out|refine zS ?_ GE212.out|refine zS ?_ GE241.out|refine zS ?_ GE245.out)|exact HB.out)⟩⟩
     ·replace c66:=Bool.eq_false_iff.mpr c66
      subst c66
      have H1:((spec_l02Star1.f k s0_0 t239 t240).bind fun bt246=>(spec_l02Draw.j2 k s0_0 bt246.2.2.1 bt246.2.2.2 bt246.1 bt246.2.1)) = some (r1,r2,r3,r4):=by rw [if_neg (show ¬ (false = true) by decide)] at H;exact H
      clear H
      have H:=H1
      clear H1
      replace H:=Option.bind_eq_some_iff.mp H
      obtain ⟨⟨t246,t247,t248,t249⟩,A830,H⟩:=H
      replace H:(spec_l02Draw.j2 k s0_0 t248 t249 t246 t247) = some (r1,r2,r3,r4):=H
      have A83:=aM A830
      clear A830
      have H':=aM H
      clear H
      go_wp2_with (first|((with_reducible refine gate_callee (f:=33) rfl ?_);refine goesL_ (some 73) rfl rfl Try.func33 (by kernel_rfl) rfl #[.pointer (some ⟨g,0,none⟩)] rfl (by (try simp only [sM,sC,sN]);first|done|rfl|(simp only [List.length_drop,List.length_take];rfl)) ?_;(with_reducible refine (spec_l01Draw.calls k g s0_0 t214 t215 t237 t238 t239 t240 w0 _ ?side1 ?side2 A64.out).mono ?_);(case side1=>repeat (first|(with_reducible first|exact HI0.out|apply iA|apply iN|apply iD|apply IsS57.set_1|apply IsS57.set_2|refine IsS57.far ?_ NB0_211.out _|refine IsS57.far ?_ NB0_212.out _)|exact HI0.out));(case side2=>repeat (first|(with_reducible first|exact HB.out|apply zA|apply zN|apply zD|refine zS ?_ (IsS57.ge HI0.out)|refine zS ?_ GE211.out|refine zS ?_ GE212.out)|exact HB.out));rintro e w84 ⟨rfl,hi,hb,hk⟩;refine ⟨_,rfl,?_⟩;replace BK211:=aM (KeepBut.blk hk (g':=gb211) (o:=.cells #[.string ⟨#[]⟩,.string ⟨#[]⟩] 25 (0,0)) (by (with_reducible repeat (first|refine yN ?_ _|refine yD ?_|refine yA ?_ _));exact BK211.out) NB211_0.out (by simp));replace BK212:=aM (KeepBut.blk hk (g':=gb212) (o:=.cells #[.string ⟨#[]⟩,.string ⟨#[]⟩] 25 (0,0)) (by (with_reducible repeat (first|refine yN ?_ _|refine yD ?_|refine yA ?_ _));exact BK212.out) NB212_0.out (by simp));replace HK:=aM (KeepBut.trans (by repeat (first|(with_reducible first|exact HK.out|apply kS|apply kN|apply kD|apply kA|refine kF ?_ GW211.out _|refine kF ?_ GW212.out _)|exact HK.out)) hk (.inl rfl));replace HB:=aM (hb);replace HI0:=aM (hi);(try clear hb);(try clear hb2);(try clear hk);(try clear hi))|((with_reducible refine gate_dst (N:=7) rfl ?_);refine box_event ?hg (N:=7) ?hd (cs:=#[.int .i64 0,.int .i64 0]) (t:=59) ?hr ?_;(case hd=>rfl);(case hg=>rfl);(case hr=>first|(go_simp;done)|(go_simp;rfl));intro gb241 hg w85 hbox hb;have n0_:=aM (IsS57.below (by repeat (first|(with_reducible first|exact HI0.out|apply iA|apply iN|apply iD|apply IsS57.set_1|apply IsS57.set_2|refine IsS57.far ?_ NB0_211.out _|refine IsS57.far ?_ NB0_212.out _)|exact HI0.out)) hb);have n1_:=aM (blk_below (g:=gb211) (o:=.cells #[.string ⟨#[]⟩,.string ⟨#[]⟩] 25 (0,0)) (by (with_reducible repeat (first|refine yN ?_ _|refine yD ?_|refine yA ?_ _));exact BK211.out) hb);have n2_:=aM (blk_below (g:=gb212) (o:=.cells #[.string ⟨#[]⟩,.string ⟨#[]⟩] 25 (0,0)) (by (with_reducible repeat (first|refine yN ?_ _|refine yD ?_|refine yA ?_ _));exact BK212.out) hb);have n3_:=aM (KeepBut.trans (by repeat (first|(with_reducible first|exact HK.out|apply kS|apply kN|apply kD|apply kA|refine kF ?_ GW211.out _|refine kF ?_ GW212.out _)|exact HK.out)) (KeepBut.of_below hb g none) (.inl rfl));have n4_:=aM (below_step (by repeat (first|(with_reducible first|exact HB.out|apply zA|apply zN|apply zD|refine zS ?_ (IsS57.ge HI0.out)|refine zS ?_ GE211.out|refine zS ?_ GE212.out)|exact HB.out)) hb);have n5_:=aM (hbox);have n6_:=aM ((by rw [hg];exact (keep_size (w:=w) (g:=g) (row:=none) (by repeat (first|(with_reducible first|exact HK.out|apply kS|apply kN|apply kD|apply kA|refine kF ?_ GW211.out _|refine kF ?_ GW212.out _)|exact HK.out))):w.heap.size ≤ gb241));have n7_:=aM ((Nat.le_trans HW0.out (by rw [hg];exact (keep_size (w:=w) (g:=g) (row:=none) (by repeat (first|(with_reducible first|exact HK.out|apply kS|apply kN|apply kD|apply kA|refine kF ?_ GW211.out _|refine kF ?_ GW212.out _)|exact HK.out))):w.heap.size ≤ gb241):w0.heap.size ≤ gb241));have n8_:=aM ((by rw [hg];exact Nat.ne_of_lt (blk_lt (g:=gb211) (o:=.cells #[.string ⟨#[]⟩,.string ⟨#[]⟩] 25 (0,0)) (by (with_reducible repeat (first|refine yN ?_ _|refine yD ?_|refine yA ?_ _));exact BK211.out)):gb211 ≠ gb241));have n9_:=aM ((by rw [hg];exact Nat.ne_of_gt (blk_lt (g:=gb211) (o:=.cells #[.string ⟨#[]⟩,.string ⟨#[]⟩] 25 (0,0)) (by (with_reducible repeat (first|refine yN ?_ _|refine yD ?_|refine yA ?_ _));exact BK211.out)):gb241 ≠ gb211));have n10_:=aM ((by rw [hg];exact Nat.ne_of_lt (blk_lt (g:=gb212) (o:=.cells #[.string ⟨#[]⟩,.string ⟨#[]⟩] 25 (0,0)) (by (with_reducible repeat (first|refine yN ?_ _|refine yD ?_|refine yA ?_ _));exact BK212.out)):gb212 ≠ gb241));have n11_:=aM ((by rw [hg];exact Nat.ne_of_gt (blk_lt (g:=gb212) (o:=.cells #[.string ⟨#[]⟩,.string ⟨#[]⟩] 25 (0,0)) (by (with_reducible repeat (first|refine yN ?_ _|refine yD ?_|refine yA ?_ _));exact BK212.out)):gb241 ≠ gb212));have n12_:=aM ((by rw [hg];exact Nat.ne_of_lt (IsS57.lt (show IsS57 w0 _ g s0_0 t239 t240 from by repeat (first|(with_reducible first|exact HI0.out|apply iA|apply iN|apply iD|apply IsS57.set_1|apply IsS57.set_2|refine IsS57.far ?_ NB0_211.out _|refine IsS57.far ?_ NB0_212.out _)|exact HI0.out))):g ≠ gb241));have n13_:=aM ((by rw [hg];exact Nat.ne_of_gt (IsS57.lt (show IsS57 w0 _ g s0_0 t239 t240 from by repeat (first|(with_reducible first|exact HI0.out|apply iA|apply iN|apply iD|apply IsS57.set_1|apply IsS57.set_2|refine IsS57.far ?_ NB0_211.out _|refine IsS57.far ?_ NB0_212.out _)|exact HI0.out))):gb241 ≠ g));clear HI0;clear BK211;clear BK212;clear HK;clear HB;have HI0:=n0_;have BK211:=n1_;have BK212:=n2_;have HK:=n3_;have HB:=n4_;have BK241:=n5_;have GW241:=n6_;have GE241:=n7_;have NB211_241:=n8_;have NB241_211:=n9_;have NB212_241:=n10_;have NB241_212:=n11_;have NB0_241:=n12_;have NB241_0:=n13_;clear n0_ n1_ n2_ n3_ n4_ n5_ n6_ n7_ n8_ n9_ n10_ n11_ n12_ n13_;clear hb hbox hg;have hnb86:=NB241_211.out;have hnc86:=NB211_241.out;have hnb87:=NB241_212.out;have hnc87:=NB212_241.out;have hnb88:=NB241_0.out;have hnc88:=NB0_241.out;have hcz89_0:w85.cell? ⟨gb241,0,none⟩ = some (.int .i64 0):=(blk_cell BK241.out 0).trans rfl;have hcz89_1:w85.cell? ⟨gb241,1,none⟩ = some (.int .i64 0):=(blk_cell BK241.out 1).trans rfl;have hfz89_0:=blk_frozen BK241.out 0;have hfz89_1:=blk_frozen BK241.out 1)|((with_reducible refine gate_callee (f:=34) rfl ?_);refine goesL_ (some 77) rfl rfl Try.func34 (by kernel_rfl) rfl #[.agg #[.int .i64 t237,.int .i64 t238],.agg #[.int .i64 t237,.int .i64 t238]] rfl (by (try simp only [sM,sC,sN]);first|done|rfl|(simp only [List.length_drop,List.length_take];rfl)) ?_;(with_reducible refine (spec_l02Itinerary.calls k t237 t238 t237 t238 t242 t243 false _ A65.out).mono ?_);rintro e w90 ⟨rfl,hb⟩;refine ⟨_,rfl,?_⟩;have n0_:=aM (IsS57.below (show IsS57 w0 ((w85.setCell ⟨gb241,0,none⟩ (.int .i64 t237)).setCell ⟨gb241,1,none⟩ (.int .i64 t238)) g s0_0 t239 t240 from by repeat (first|(with_reducible first|exact HI0.out|apply iA|apply iN|apply iD|apply IsS57.set_1|apply IsS57.set_2|refine IsS57.far ?_ NB0_211.out _|refine IsS57.far ?_ NB0_212.out _|refine IsS57.far ?_ NB0_241.out _)|exact HI0.out)) hb);have n1_:=aM (blk_below (g:=gb211) (o:=.cells #[.string ⟨#[]⟩,.string ⟨#[]⟩] 25 (0,0)) (by (with_reducible repeat (first|refine yN ?_ _|refine yD ?_|refine yA ?_ _));refine blk_far ?_ NB211_241.out _;(with_reducible repeat (first|refine yN ?_ _|refine yD ?_|refine yA ?_ _));refine blk_far ?_ NB211_241.out _;(with_reducible repeat (first|refine yN ?_ _|refine yD ?_|refine yA ?_ _));exact BK211.out) hb);have n2_:=aM (blk_below (g:=gb212) (o:=.cells #[.string ⟨#[]⟩,.string ⟨#[]⟩] 25 (0,0)) (by (with_reducible repeat (first|refine yN ?_ _|refine yD ?_|refine yA ?_ _));refine blk_far ?_ NB212_241.out _;(with_reducible repeat (first|refine yN ?_ _|refine yD ?_|refine yA ?_ _));refine blk_far ?_ NB212_241.out _;(with_reducible repeat (first|refine yN ?_ _|refine yD ?_|refine yA ?_ _));exact BK212.out) hb);have n3_:=aM (blk_below (g:=gb241) (o:=.cells #[.int .i64 t237,.int .i64 t238] 59 (0,0)) (by (with_reducible repeat (first|refine yN ?_ _|refine yD ?_|refine yA ?_ _));refine blk_put (cs:=#[.int .i64 t237,.int .i64 0]) ?_ 1 _ rfl;(with_reducible repeat (first|refine yN ?_ _|refine yD ?_|refine yA ?_ _));refine blk_put (cs:=#[.int .i64 0,.int .i64 0]) ?_ 0 _ rfl;(with_reducible repeat (first|refine yN ?_ _|refine yD ?_|refine yA ?_ _));exact BK241.out) hb);have n4_:=aM (KeepBut.trans (by repeat (first|(with_reducible first|exact HK.out|apply kS|apply kN|apply kD|apply kA|refine kF ?_ GW211.out _|refine kF ?_ GW212.out _|refine kF ?_ GW241.out _)|exact HK.out)) (KeepBut.of_below hb g none) (.inl rfl));have n5_:=aM (below_step (by repeat (first|(with_reducible first|exact HB.out|apply zA|apply zN|apply zD|refine zS ?_ (IsS57.ge HI0.out)|refine zS ?_ GE211.out|refine zS ?_ GE212.out|refine zS ?_ GE241.out)|exact HB.out)) hb);clear HI0;clear BK211;clear BK212;clear BK241;clear HK;clear HB;have HI0:=n0_;have BK211:=n1_;have BK212:=n2_;have BK241:=n3_;have HK:=n4_;have HB:=n5_;clear n0_ n1_ n2_ n3_ n4_ n5_;(try clear hb);(try clear hb2);(try clear hk);(try clear hi))|((with_reducible refine gate_dst (N:=8) rfl ?_);refine box_event ?hg (N:=8) ?hd (cs:=#[.string ⟨#[]⟩,.string ⟨#[]⟩]) (t:=25) ?hr ?_;(case hd=>rfl);(case hg=>rfl);(case hr=>first|(go_simp;done)|(go_simp;rfl));intro gb245 hg w91 hbox hb;have n0_:=aM (IsS57.below (by repeat (first|(with_reducible first|exact HI0.out|apply iA|apply iN|apply iD|apply IsS57.set_1|apply IsS57.set_2|refine IsS57.far ?_ NB0_211.out _|refine IsS57.far ?_ NB0_212.out _|refine IsS57.far ?_ NB0_241.out _)|exact HI0.out)) hb);have n1_:=aM (blk_below (g:=gb211) (o:=.cells #[.string ⟨#[]⟩,.string ⟨#[]⟩] 25 (0,0)) (by (with_reducible repeat (first|refine yN ?_ _|refine yD ?_|refine yA ?_ _));exact BK211.out) hb);have n2_:=aM (blk_below (g:=gb212) (o:=.cells #[.string ⟨#[]⟩,.string ⟨#[]⟩] 25 (0,0)) (by (with_reducible repeat (first|refine yN ?_ _|refine yD ?_|refine yA ?_ _));exact BK212.out) hb);have n3_:=aM (blk_below (g:=gb241) (o:=.cells #[.int .i64 t237,.int .i64 t238] 59 (0,0)) (by (with_reducible repeat (first|refine yN ?_ _|refine yD ?_|refine yA ?_ _));exact BK241.out) hb);have n4_:=aM (KeepBut.trans (by repeat (first|(with_reducible first|exact HK.out|apply kS|apply kN|apply kD|apply kA|refine kF ?_ GW211.out _|refine kF ?_ GW212.out _|refine kF ?_ GW241.out _)|exact HK.out)) (KeepBut.of_below hb g none) (.inl rfl));have n5_:=aM (below_step (by repeat (first|(with_reducible first|exact HB.out|apply zA|apply zN|apply zD|refine zS ?_ (IsS57.ge HI0.out)|refine zS ?_ GE211.out|refine zS ?_ GE212.out|refine zS ?_ GE241.out)|exact HB.out)) hb);have n6_:=aM (hbox);have n7_:=aM ((by rw [hg];exact (keep_size (w:=w) (g:=g) (row:=none) (by repeat (first|(with_reducible first|exact HK.out|apply kS|apply kN|apply kD|apply kA|refine kF ?_ GW211.out _|refine kF ?_ GW212.out _|refine kF ?_ GW241.out _)|exact HK.out))):w.heap.size ≤ gb245));have n8_:=aM ((Nat.le_trans HW0.out (by rw [hg];exact (keep_size (w:=w) (g:=g) (row:=none) (by repeat (first|(with_reducible first|exact HK.out|apply kS|apply kN|apply kD|apply kA|refine kF ?_ GW211.out _|refine kF ?_ GW212.out _|refine kF ?_ GW241.out _)|exact HK.out))):w.heap.size ≤ gb245):w0.heap.size ≤ gb245));have n9_:=aM ((by rw [hg];exact Nat.ne_of_lt (blk_lt (g:=gb211) (o:=.cells #[.string ⟨#[]⟩,.string ⟨#[]⟩] 25 (0,0)) (by (with_reducible repeat (first|refine yN ?_ _|refine yD ?_|refine yA ?_ _));exact BK211.out)):gb211 ≠ gb245));have n10_:=aM ((by rw [hg];exact Nat.ne_of_gt (blk_lt (g:=gb211) (o:=.cells #[.string ⟨#[]⟩,.string ⟨#[]⟩] 25 (0,0)) (by (with_reducible repeat (first|refine yN ?_ _|refine yD ?_|refine yA ?_ _));exact BK211.out)):gb245 ≠ gb211));have n11_:=aM ((by rw [hg];exact Nat.ne_of_lt (blk_lt (g:=gb212) (o:=.cells #[.string ⟨#[]⟩,.string ⟨#[]⟩] 25 (0,0)) (by (with_reducible repeat (first|refine yN ?_ _|refine yD ?_|refine yA ?_ _));exact BK212.out)):gb212 ≠ gb245));have n12_:=aM ((by rw [hg];exact Nat.ne_of_gt (blk_lt (g:=gb212) (o:=.cells #[.string ⟨#[]⟩,.string ⟨#[]⟩] 25 (0,0)) (by (with_reducible repeat (first|refine yN ?_ _|refine yD ?_|refine yA ?_ _));exact BK212.out)):gb245 ≠ gb212));have n13_:=aM ((by rw [hg];exact Nat.ne_of_lt (blk_lt (g:=gb241) (o:=.cells #[.int .i64 t237,.int .i64 t238] 59 (0,0)) (by (with_reducible repeat (first|refine yN ?_ _|refine yD ?_|refine yA ?_ _));exact BK241.out)):gb241 ≠ gb245));have n14_:=aM ((by rw [hg];exact Nat.ne_of_gt (blk_lt (g:=gb241) (o:=.cells #[.int .i64 t237,.int .i64 t238] 59 (0,0)) (by (with_reducible repeat (first|refine yN ?_ _|refine yD ?_|refine yA ?_ _));exact BK241.out)):gb245 ≠ gb241));have n15_:=aM ((by rw [hg];exact Nat.ne_of_lt (IsS57.lt (show IsS57 w0 _ g s0_0 t239 t240 from by repeat (first|(with_reducible first|exact HI0.out|apply iA|apply iN|apply iD|apply IsS57.set_1|apply IsS57.set_2|refine IsS57.far ?_ NB0_211.out _|refine IsS57.far ?_ NB0_212.out _|refine IsS57.far ?_ NB0_241.out _)|exact HI0.out))):g ≠ gb245));have n16_:=aM ((by rw [hg];exact Nat.ne_of_gt (IsS57.lt (show IsS57 w0 _ g s0_0 t239 t240 from by repeat (first|(with_reducible first|exact HI0.out|apply iA|apply iN|apply iD|apply IsS57.set_1|apply IsS57.set_2|refine IsS57.far ?_ NB0_211.out _|refine IsS57.far ?_ NB0_212.out _|refine IsS57.far ?_ NB0_241.out _)|exact HI0.out))):gb245 ≠ g));clear HI0;clear BK211;clear BK212;clear BK241;clear HK;clear HB;have HI0:=n0_;have BK211:=n1_;have BK212:=n2_;have BK241:=n3_;have HK:=n4_;have HB:=n5_;have BK245:=n6_;have GW245:=n7_;have GE245:=n8_;have NB211_245:=n9_;have NB245_211:=n10_;have NB212_245:=n11_;have NB245_212:=n12_;have NB241_245:=n13_;have NB245_241:=n14_;have NB0_245:=n15_;have NB245_0:=n16_;clear n0_ n1_ n2_ n3_ n4_ n5_ n6_ n7_ n8_ n9_ n10_ n11_ n12_ n13_ n14_ n15_ n16_;clear hb hbox hg;have hnb92:=NB245_211.out;have hnc92:=NB211_245.out;have hnb93:=NB245_212.out;have hnc93:=NB212_245.out;have hnb94:=NB245_241.out;have hnc94:=NB241_245.out;have hnb95:=NB245_0.out;have hnc95:=NB0_245.out;have hcz96_0:w91.cell? ⟨gb245,0,none⟩ = some (.string ⟨#[]⟩):=(blk_cell BK245.out 0).trans rfl;have hcz96_1:w91.cell? ⟨gb245,1,none⟩ = some (.string ⟨#[]⟩):=(blk_cell BK245.out 1).trans rfl;have hfz96_0:=blk_frozen BK245.out 0;have hfz96_1:=blk_frozen BK245.out 1)|((with_reducible refine gate_callee (f:=32) rfl ?_);refine goesL_ (some 83) rfl rfl Try.func32 (by kernel_rfl) rfl #[.pointer (some ⟨g,0,none⟩)] rfl (by (try simp only [sM,sC,sN]);first|done|rfl|(simp only [List.length_drop,List.length_take];rfl)) ?_;(with_reducible refine (spec_l02Star1.calls k g s0_0 t239 t240 t246 t247 t248 t249 w0 _ ?side1 ?side2 A83.out).mono ?_);(case side1=>repeat (first|(with_reducible first|exact HI0.out|apply iA|apply iN|apply iD|apply IsS57.set_1|apply IsS57.set_2|refine IsS57.far ?_ NB0_211.out _|refine IsS57.far ?_ NB0_212.out _|refine IsS57.far ?_ NB0_241.out _|refine IsS57.far ?_ NB0_245.out _)|exact HI0.out));(case side2=>repeat (first|(with_reducible first|exact HB.out|apply zA|apply zN|apply zD|refine zS ?_ (IsS57.ge HI0.out)|refine zS ?_ GE211.out|refine zS ?_ GE212.out|refine zS ?_ GE241.out|refine zS ?_ GE245.out)|exact HB.out));rintro e w97 ⟨rfl,hi,hb,hk⟩;refine ⟨_,rfl,?_⟩;replace BK211:=aM (KeepBut.blk hk (g':=gb211) (o:=.cells #[.string ⟨#[]⟩,.string ⟨#[]⟩] 25 (0,0)) (by (with_reducible repeat (first|refine yN ?_ _|refine yD ?_|refine yA ?_ _));refine blk_far ?_ NB211_245.out _;(with_reducible repeat (first|refine yN ?_ _|refine yD ?_|refine yA ?_ _));refine blk_far ?_ NB211_245.out _;(with_reducible repeat (first|refine yN ?_ _|refine yD ?_|refine yA ?_ _));exact BK211.out) NB211_0.out (by simp));replace BK212:=aM (KeepBut.blk hk (g':=gb212) (o:=.cells #[.string ⟨#[]⟩,.string ⟨#[]⟩] 25 (0,0)) (by (with_reducible repeat (first|refine yN ?_ _|refine yD ?_|refine yA ?_ _));refine blk_far ?_ NB212_245.out _;(with_reducible repeat (first|refine yN ?_ _|refine yD ?_|refine yA ?_ _));refine blk_far ?_ NB212_245.out _;(with_reducible repeat (first|refine yN ?_ _|refine yD ?_|refine yA ?_ _));exact BK212.out) NB212_0.out (by simp));replace BK241:=aM (KeepBut.blk hk (g':=gb241) (o:=.cells #[.int .i64 t237,.int .i64 t238] 59 (0,0)) (by (with_reducible repeat (first|refine yN ?_ _|refine yD ?_|refine yA ?_ _));refine blk_far ?_ NB241_245.out _;(with_reducible repeat (first|refine yN ?_ _|refine yD ?_|refine yA ?_ _));refine blk_far ?_ NB241_245.out _;(with_reducible repeat (first|refine yN ?_ _|refine yD ?_|refine yA ?_ _));exact BK241.out) NB241_0.out (by simp));replace BK245:=aM (KeepBut.blk hk (g':=gb245) (o:=.cells #[.string t242,.string t243] 25 (0,0)) (by (with_reducible repeat (first|refine yN ?_ _|refine yD ?_|refine yA ?_ _));refine blk_put (cs:=#[.string t242,.string ⟨#[]⟩]) ?_ 1 _ rfl;(with_reducible repeat (first|refine yN ?_ _|refine yD ?_|refine yA ?_ _));refine blk_put (cs:=#[.string ⟨#[]⟩,.string ⟨#[]⟩]) ?_ 0 _ rfl;(with_reducible repeat (first|refine yN ?_ _|refine yD ?_|refine yA ?_ _));exact BK245.out) NB245_0.out (by simp));replace HK:=aM (KeepBut.trans (by repeat (first|(with_reducible first|exact HK.out|apply kS|apply kN|apply kD|apply kA|refine kF ?_ GW211.out _|refine kF ?_ GW212.out _|refine kF ?_ GW241.out _|refine kF ?_ GW245.out _)|exact HK.out)) hk (.inl rfl));replace HB:=aM (hb);replace HI0:=aM (hi);(try clear hb);(try clear hb2);(try clear hk);(try clear hi);have hnb98:=NB212_211.out;have hnc98:=NB211_212.out;have hnb99:=NB212_0.out;have hnc99:=NB0_212.out;have hcz100_0:w97.cell? ⟨gb212,0,none⟩ = some (.string ⟨#[]⟩):=(blk_cell BK212.out 0).trans rfl;have hcz100_1:w97.cell? ⟨gb212,1,none⟩ = some (.string ⟨#[]⟩):=(blk_cell BK212.out 1).trans rfl;have hfz100_0:=blk_frozen BK212.out 0;have hfz100_1:=blk_frozen BK212.out 1))
      go_meet
      case rel=>exact ⟨_,(t248),(t249),(t246),(t247),H',⟨by first|omega|exact Nat.le_refl _⟩,⟨by (with_reducible repeat (first|refine yN ?_ _|refine yD ?_|refine yA ?_ _));refine blk_far ?_ NB211_212.out _;(with_reducible repeat (first|refine yN ?_ _|refine yD ?_|refine yA ?_ _));refine blk_far ?_ NB211_212.out _;(with_reducible repeat (first|refine yN ?_ _|refine yD ?_|refine yA ?_ _));exact BK211.out⟩,⟨by (with_reducible repeat (first|refine yN ?_ _|refine yD ?_|refine yA ?_ _));refine blk_put (cs:=#[.string t246,.string ⟨#[]⟩]) ?_ 1 _ rfl;(with_reducible repeat (first|refine yN ?_ _|refine yD ?_|refine yA ?_ _));refine blk_put (cs:=#[.string ⟨#[]⟩,.string ⟨#[]⟩]) ?_ 0 _ rfl;(with_reducible repeat (first|refine yN ?_ _|refine yD ?_|refine yA ?_ _));exact BK212.out⟩,⟨by repeat (first|(with_reducible first|exact HI0.out|apply iA|apply iN|apply iD|apply IsS57.set_1|apply IsS57.set_2|refine IsS57.far ?_ NB0_211.out _|refine IsS57.far ?_ NB0_212.out _|refine IsS57.far ?_ NB0_241.out _|refine IsS57.far ?_ NB0_245.out _)|exact HI0.out)⟩,⟨by repeat (first|(with_reducible first|exact HK.out|apply kS|apply kN|apply kD|apply kA|refine kF ?_ GW211.out _|refine kF ?_ GW212.out _|refine kF ?_ GW241.out _|refine kF ?_ GW245.out _)|exact HK.out)⟩,⟨by repeat (first|(with_reducible first|exact HB.out|apply zA|apply zN|apply zD|refine zS ?_ (IsS57.ge HI0.out)|refine zS ?_ GE211.out|refine zS ?_ GE212.out|refine zS ?_ GE241.out|refine zS ?_ GE245.out)|exact HB.out)⟩⟩
    ·rw [if_neg c63] at H
     have c63b0:(t213 == 2) = false:=beq_eq_false_iff_ne.mpr c63
     have c63b1:(t213 != 2) = true:=bne_iff_ne.mpr c63
     obtain ⟨y250,hy250⟩:∃ y_:List ByteArray,y_ = (([⟨#[48]⟩,⟨#[49]⟩,⟨#[42]⟩]:List ByteArray)):=⟨_,rfl⟩
     replace H:((spec_l01Next.f s0_0 t214 t215 3).bind fun bt253=>(if 0 ≤ bt253.1 then (if bt253.1 < (y250.length:Int) then ((spec_l01Next.f s0_0 bt253.2.1 bt253.2.2 4).bind fun bt257=>(spec_l02Draw.l0 k (⟨#[]⟩:ByteArray) (rdOf ByteArray.empty y250 bt253.1) bt257.1 s0_0 bt257.2.1 bt257.2.2)) else (none)) else (none))) = some (r1,r2,r3,r4):=by first|(rw [hy250];with_reducible exact H)|(have H2_:=(Option.bind_some _ _).symm.trans H;rw [hy250];with_reducible exact H2_)|(have H2_:=(Option.bind_some _ _).symm.trans H;with_reducible exact H2_)|with_reducible exact H|(rw [hy250];exact H)|exact H
     have Ny250:=aM hy250
     clear hy250
     replace H:=Option.bind_eq_some_iff.mp H
     obtain ⟨⟨t253,t254,t255⟩,A1010,H⟩:=H
     replace H:(if 0 ≤ t253 then (if t253 < (y250.length:Int) then ((spec_l01Next.f s0_0 t254 t255 4).bind fun bt257=>(spec_l02Draw.l0 k (⟨#[]⟩:ByteArray) (rdOf ByteArray.empty y250 t253) bt257.1 s0_0 bt257.2.1 bt257.2.2)) else (none)) else (none)) = some (r1,r2,r3,r4):=H
     have A101:=aM A1010
     clear A1010
     by_cases c102:0 ≤ t253
     ·rw [if_pos c102] at H
      have c102b0:decide (0 ≤ t253) = true:=decide_eq_true c102
      clear c102
      by_cases c103:t253 < (y250.length:Int)
      ·rw [if_pos c103] at H
       have c103b0:decide (t253 < (y250.length:Int)) = true:=decide_eq_true c103
       clear c103
       replace H:=Option.bind_eq_some_iff.mp H
       obtain ⟨⟨t257,t258,t259⟩,A1040,H⟩:=H
       replace H:(spec_l02Draw.l0 k (⟨#[]⟩:ByteArray) (rdOf ByteArray.empty y250 t253) t257 s0_0 t258 t259) = some (r1,r2,r3,r4):=H
       have A104:=aM A1040
       clear A1040
       have H':=aM H
       clear H
       try go_wp2
       have pi256:(0 ≤ (t253:Int)) = True:=eq_true (of_decide_eq_true (by first|(with_reducible assumption)|assumption))
       have qi256:(t253 < (y250.length:Int)) = True:=eq_true (of_decide_eq_true (by first|(with_reducible assumption)|assumption))
       replace BK211:=aM (yD BK211.out)
       replace BK212:=aM (yD BK212.out)
       replace HI0:=aM (IsS57.drew HI0.out)
       replace HK:=aM (kD HK.out)
       replace HB:=aM (zD HB.out)
       refine start_ (n:=7) (S:=fun w'=>True) (ds:=[]) #[fF,fF,fF,fF,fF,fF,fF] (by kernel_rfl) rfl rfl trivial (fun hHeld=>?_);refine with_tabW spec_l02Draw.tab3 spec_l02Draw.bits3 (fun HT_ HW_=>?_)
       generalize w9.drew = w105 at BK211 BK212 HI0 HK HB hHeld ⊢
       refine pure_ (i:=1) (N:=some 18) (v:=?_) (a':=?_) #[fF,tT,fF,fF,fF,fF,fF] rfl rfl (any_of HT_.out (by kernel_rfl)) (fun _ _ _ h=>h) (Or.inl ⟨by rfl,?_⟩) ?_ ?_
       rotate_left
       ·intro w'
        go_simp
        with_reducible rfl
       rotate_left
       ·simp only [Act.put,sI,sZ,sS,i64_w,i32_w]
        rfl
       refine inv_at [0,2,3,4,5,6] (fun a0_ b a w'=>∃ (v251:Value) (adz_v251:Addr) (m3_:Value),a = putSel a0_ b [(0,17,v251),(2,19,.int .i64 t253),(3,20,m3_),(4,21,.string (rdOf ByteArray.empty y250 t253)),(5,10,.string ⟨#[]⟩),(6,11,.string (rdOf ByteArray.empty y250 t253))] ∧ (w'.heap[gb211]? = some (.cells #[.string ⟨#[]⟩,.string ⟨#[]⟩] 25 (0,0))) ∧ (w'.heap[gb212]? = some (.cells #[.string ⟨#[]⟩,.string ⟨#[]⟩] 25 (0,0))) ∧ (b 2 = false → IsS57 w0 w' g s0_0 t214 t215) ∧ (KeepBut w w' g none) ∧ (Below w0.heap.size w0 w') ∧ (b 0 = true → Kd.R Kd.string 9 w' w.heap.size (fun _=>True) v251 y250) ∧ (b 0 = true → ∃ c_,(v251:Value) = .slice (some adz_v251) y250.length c_) ∧ (b 2 = true → IsS57 w0 w' g s0_0 t254 t255) ∧ (b 3 = true → (m3_:Value) = .pointer (some (adz_v251.add (t253).toNat)))) HT_.out HW_.out (by kernel_rfl) (by kernel_rfl) ?_ ?_ ?_
       ·exact ⟨.bool false,⟨0,0,none⟩,.bool false,by simp only [putSel,Bool.false_eq_true,if_false],BK211.out,BK212.out,fun _=>HI0.out,HK.out,HB.out,fun h_=>absurd h_ (by decide),fun h_=>absurd h_ (by decide),fun h_=>absurd h_ (by decide),fun h_=>absurd h_ (by decide)⟩
       ·skip
        clear BK211 BK212 HB HI0 HK
        refine steps_cons ?_ ?_
        ·rintro b a w' ⟨v251,adz_v251,m3_,ha,Q_BK211,Q_BK212,Q_HI0,Q_HK,Q_HB,Q_HO252,Q_HA_HO252,Q_HI0_e2,Q_X3_⟩ hb_ hon hoff
         refine ⟨_,rfl,fun K hK=>?_⟩
         replace ha:=aM ha
         have BK211:=aM Q_BK211
         have BK212:=aM Q_BK212
         have HK:=aM Q_HK
         have HB:=aM Q_HB
         refine Kd.R_lit_step Kd.string _ 9 ?hg (N:=17) ?hd (xs:=([⟨#[48]⟩,⟨#[49]⟩,⟨#[42]⟩]:List ByteArray)) (inner:=[.string ⟨#[48]⟩,.string ⟨#[49]⟩,.string ⟨#[42]⟩]) (ok:=fun _=>True) (okp:=fun _=>True) ?hr ?hp (fun _ hk=>hk) trivial (Below.refl _ _) (Nat.le_refl _) (by simp) ?_;(case hd=>rfl);(case hg=>rfl);(case hr=>first|(go_simp;done)|(go_simp;rfl));(case hp=>exact (Reps.one (show Kd.M Kd.string _ _ _ (⟨#[48]⟩:ByteArray) [.string ⟨#[48]⟩] from rfl) (Reps.one (show Kd.M Kd.string _ _ _ (⟨#[49]⟩:ByteArray) [.string ⟨#[49]⟩] from rfl) (Reps.one (show Kd.M Kd.string _ _ _ (⟨#[42]⟩:ByteArray) [.string ⟨#[42]⟩] from rfl) (Reps.none _ _)))))
         intro v251 w106 ho107 hb hg_ hnew_
         clear hg_ hnew_
         (first|rw [← Ny250.out] at ho107|(simp only [Int.reduceToNat] at ho107;rw [← Ny250.out] at ho107))
         have n0_:=aM (Kd.R_lower ho107 (keep_size (w:=w) (g:=g) (row:=none) HK.out))
         have n2_:=aM (blk_below (g:=gb211) (o:=.cells #[.string ⟨#[]⟩,.string ⟨#[]⟩] 25 (0,0)) BK211.out hb)
         have n3_:=aM (blk_below (g:=gb212) (o:=.cells #[.string ⟨#[]⟩,.string ⟨#[]⟩] 25 (0,0)) BK212.out hb)
         have n4_:=aM (KeepBut.trans HK.out (KeepBut.of_below hb g none) (.inl rfl))
         have n5_:=aM (below_step HB.out hb)
         have z_HI0:=fun (h0_:b 2 = false)=>(show IsS57 w0 w106 g s0_0 t214 t215 from by first|exact (IsS57.below (by repeat (first|(with_reducible first|exact (Q_HI0 h0_)|apply iA|apply iN|apply iD|apply IsS57.set_1|apply IsS57.set_2|refine IsS57.far ?_ NB0_211.out _|refine IsS57.far ?_ NB0_212.out _)|exact (Q_HI0 h0_))) hb))
         have z_HI0_e2:=fun (h0_:b 2 = true)=>(show IsS57 w0 w106 g s0_0 t254 t255 from by first|exact (IsS57.below (by repeat (first|(with_reducible first|exact (Q_HI0_e2 h0_)|apply iA|apply iN|apply iD|apply IsS57.set_1|apply IsS57.set_2|refine IsS57.far ?_ NB0_211.out _|refine IsS57.far ?_ NB0_212.out _)|exact (Q_HI0_e2 h0_))) hb))
         clear BK211
         clear BK212
         clear HK
         clear HB
         have HO252:=n0_
         have BK211:=n2_
         have BK212:=n3_
         have HK:=n4_
         have HB:=n5_
         clear n0_ n2_ n3_ n4_ n5_
         clear hb ho107
         obtain ⟨Ao108,co108,eo108⟩:=Kd.R_slice HO252.out
         subst eo108
         obtain ⟨ado108,fo108,_⟩:=Kd.at_string (Kd.R_reads' HO252.out).2.2 0 (by decide) (by rw [Ny250.out];simp)
         cases fo108
         refine hK.out _ _ ⟨.slice (some ado108) y250.length co108,ado108,m3_,(by rw [ha.out];exact putSel_upk 0 hb_ rfl rfl rfl),BK211.out,BK212.out,z_HI0,HK.out,HB.out,fun _=>HO252.out,fun _=>⟨_,rfl⟩,z_HI0_e2,fun h0_=>absurd ((hoff 3 (by kernel_rfl)).symm.trans h0_) (by decide)⟩
        refine steps_cons ?_ ?_
        ·rintro b a w' ⟨v251,adz_v251,m3_,ha,Q_BK211,Q_BK212,Q_HI0,Q_HK,Q_HB,Q_HO252,Q_HA_HO252,Q_HI0_e2,Q_X3_⟩ hb_ hon hoff
         refine ⟨_,rfl,fun K hK=>?_⟩
         have e18:a.tmps[18]? = some (.pointer (some ⟨g,0,none⟩)):=by rw [ha];exact (putSel_off rfl).trans rfl
         replace ha:=aM ha
         have BK211:=aM Q_BK211
         have BK212:=aM Q_BK212
         have HI0:=aM (Q_HI0 hb_)
         have HK:=aM Q_HK
         have HB:=aM Q_HB
         refine goes_ Try.func18 (by kernel_rfl) rfl #[.pointer (some ⟨g,0,none⟩),.int .i64 3] (by rfl) rfl rfl (by first|(simp only [sM,sC,sN,Act.eval,Array.getD_eq_getD_getElem?,Option.getD_some,e18];done)|(simp only [sM,sC,sN,Act.eval,Array.getD_eq_getD_getElem?,Option.getD_some,e18];rfl)) ?_
         with_reducible refine (spec_l01Next.calls g s0_0 t214 t215 3 t253 t254 t255 w0 _ ?side1 ?side2 A101.out).mono ?_
         (case side1=>repeat (first|(with_reducible first|exact HI0.out|apply iA|apply iN|apply iD|apply IsS57.set_1|apply IsS57.set_2|refine IsS57.far ?_ NB0_211.out _|refine IsS57.far ?_ NB0_212.out _)|exact HI0.out))
         (case side2=>repeat (first|(with_reducible first|exact HB.out|apply zA|apply zN|apply zD|refine zS ?_ (IsS57.ge HI0.out)|refine zS ?_ GE211.out|refine zS ?_ GE212.out)|exact HB.out))
         rintro e w106 ⟨rfl,hi,hb,hk⟩
         refine ⟨_,rfl,?_⟩
         have n0_:=aM (KeepBut.blk hk (g':=gb211) (o:=.cells #[.string ⟨#[]⟩,.string ⟨#[]⟩] 25 (0,0)) BK211.out NB211_0.out (by simp))
         have n1_:=aM (KeepBut.blk hk (g':=gb212) (o:=.cells #[.string ⟨#[]⟩,.string ⟨#[]⟩] 25 (0,0)) BK212.out NB212_0.out (by simp))
         have n2_:=aM (KeepBut.trans HK.out hk (.inl rfl))
         have n3_:=aM (hb)
         have n4_:=aM (hi)
         have z_HO252:=fun (h0_:b 0 = true)=>(show Kd.R Kd.string 9 w106 w.heap.size (fun _=>True) v251 y250 from by first|exact (Kd.R_mono (Kd.R_keep (IsS57.apart (show IsS57 w0 _ g s0_0 t214 t215 from HI0.out) (by (with_reducible repeat (first|apply rA|apply rN|apply rD));exact (Q_HO252 h0_)) (by decide)) hk (fun _ h=>h.2)) (fun _ h=>h.1))|exact Kd.R_mono (Kd.R_mono (Kd.R_keep (IsS57.apart (show IsS57 w0 _ g s0_0 t214 t215 from HI0.out) (by (with_reducible repeat (first|apply rA|apply rN|apply rD));exact (Q_HO252 h0_)) (by decide)) hk (fun _ h=>h.2)) (fun _ h=>h.1)) (fun _ h_=>by first|trivial|exact h_|exact h_.1))
         clear BK211
         clear BK212
         clear HK
         clear HB
         clear HI0
         have BK211:=n0_
         have BK212:=n1_
         have HK:=n2_
         have HB:=n3_
         have HI0:=n4_
         clear n0_ n1_ n2_ n3_ n4_
         refine hK.out _ _ ⟨v251,adz_v251,m3_,(by rw [ha.out];exact putSel_upk 1 hb_ rfl rfl rfl),BK211.out,BK212.out,fun h0_=>absurd ((up_self b 2).symm.trans h0_) (by decide),HK.out,HB.out,z_HO252,Q_HA_HO252,fun _=>HI0.out,fun h0_=>absurd ((hoff 3 (by kernel_rfl)).symm.trans h0_) (by decide)⟩
        refine steps_cons ?_ ?_
        ·rintro b a w' ⟨v251,adz_v251,m3_,ha,Q_BK211,Q_BK212,Q_HI0,Q_HK,Q_HB,Q_HO252,Q_HA_HO252,Q_HI0_e2,Q_X3_⟩ hb_ hon hoff
         refine ⟨_,rfl,fun K hK=>?_⟩
         have e17:a.tmps[17]? = some (v251):=by rw [ha];exact putSel_on (e:=(0,17,v251)) 0 rfl rfl (hon 0 (by kernel_rfl)) rfl
         have e19:a.tmps[19]? = some (.int .i64 t253):=by rw [ha];exact putSel_on (e:=(2,19,.int .i64 t253)) 1 rfl rfl (hon 2 (by kernel_rfl)) rfl
         replace ha:=aM ha
         have BK211:=aM Q_BK211
         have BK212:=aM Q_BK212
         have HK:=aM Q_HK
         have HB:=aM Q_HB
         have HO252:=aM (Q_HO252 (hon 0 (by kernel_rfl)))
         have HA_HO252:=aM (Q_HA_HO252 (hon 0 (by kernel_rfl)))
         have HI0:=aM (Q_HI0_e2 (hon 2 (by kernel_rfl)))
         obtain ⟨c_,hv_⟩:=HA_HO252.out
         rw [hv_] at e17
         refine value_ (w1:=w') (v:=.pointer (some (adz_v251.add (t253).toNat))) (by rfl) rfl ?_ ?_
         ·go_simp
          (try simp only [i64_w])
          try rfl
         refine hK.out _ _ ⟨v251,adz_v251,(.pointer (some (adz_v251.add (t253).toNat))),(by rw [ha.out];exact putSel_upk 2 hb_ rfl rfl rfl),Q_BK211,Q_BK212,fun h0_=>absurd ((hon 2 (by kernel_rfl)).symm.trans h0_) (by decide),Q_HK,Q_HB,Q_HO252,Q_HA_HO252,Q_HI0_e2,fun _=>rfl⟩
        refine steps_cons ?_ ?_
        ·rintro b a w' ⟨v251,adz_v251,m3_,ha,Q_BK211,Q_BK212,Q_HI0,Q_HK,Q_HB,Q_HO252,Q_HA_HO252,Q_HI0_e2,Q_X3_⟩ hb_ hon hoff
         refine ⟨_,rfl,fun K hK=>?_⟩
         have e20:a.tmps[20]? = some (m3_):=by rw [ha];exact putSel_on (e:=(3,20,m3_)) 2 rfl rfl (hon 3 (by kernel_rfl)) rfl
         rw [Q_X3_ (hon 3 (by kernel_rfl))] at e20
         replace ha:=aM ha
         have BK211:=aM Q_BK211
         have BK212:=aM Q_BK212
         have HK:=aM Q_HK
         have HB:=aM Q_HB
         have HO252:=aM (Q_HO252 (hon 0 (by kernel_rfl)))
         have HA_HO252:=aM (Q_HA_HO252 (hon 0 (by kernel_rfl)))
         have HI0:=aM (Q_HI0_e2 (hon 2 (by kernel_rfl)))
         obtain ⟨c_,hv_⟩:=HA_HO252.out
         have hF_:=HO252.out
         rw [hv_] at hF_
         obtain ⟨ad_,ea_,hx_⟩:=Kd.at_string (Kd.R_reads' hF_).2.2 t253 (of_eq_true pi256) (of_eq_true qi256)
         cases ea_
         refine value_ (w1:=w') (v:=.string (rdOf ByteArray.empty y250 t253)) (by rfl) rfl ?_ ?_
         ·go_simp
          (try simp only [i64_w])
          try rfl
         refine hK.out _ _ ⟨v251,adz_v251,m3_,(by rw [ha.out];exact putSel_upk 3 hb_ rfl rfl rfl),Q_BK211,Q_BK212,fun h0_=>absurd ((hon 2 (by kernel_rfl)).symm.trans h0_) (by decide),Q_HK,Q_HB,Q_HO252,Q_HA_HO252,Q_HI0_e2,Q_X3_⟩
        refine steps_cons ?_ ?_
        ·rintro b a w' ⟨v251,adz_v251,m3_,ha,Q_BK211,Q_BK212,Q_HI0,Q_HK,Q_HB,Q_HO252,Q_HA_HO252,Q_HI0_e2,Q_X3_⟩ hb_ hon hoff
         refine ⟨_,rfl,fun K hK=>?_⟩
         replace ha:=aM ha
         have BK211:=aM Q_BK211
         have BK212:=aM Q_BK212
         have HK:=aM Q_HK
         have HB:=aM Q_HB
         have HI0:=aM (Q_HI0_e2 (hon 2 (by kernel_rfl)))
         refine value_ (w1:=w') (v:=.string ⟨#[]⟩) (by rfl) rfl ?_ ?_
         ·go_simp
          (try simp only [i64_w])
          try rfl
         refine hK.out _ _ ⟨v251,adz_v251,m3_,(by rw [ha.out];exact putSel_upk 4 hb_ rfl rfl rfl),Q_BK211,Q_BK212,fun h0_=>absurd ((hon 2 (by kernel_rfl)).symm.trans h0_) (by decide),Q_HK,Q_HB,Q_HO252,Q_HA_HO252,Q_HI0_e2,Q_X3_⟩
        refine steps_cons ?_ ?_
        ·rintro b a w' ⟨v251,adz_v251,m3_,ha,Q_BK211,Q_BK212,Q_HI0,Q_HK,Q_HB,Q_HO252,Q_HA_HO252,Q_HI0_e2,Q_X3_⟩ hb_ hon hoff
         refine ⟨_,rfl,fun K hK=>?_⟩
         have e21:a.tmps[21]? = some (.string (rdOf ByteArray.empty y250 t253)):=by rw [ha];exact putSel_on (e:=(4,21,.string (rdOf ByteArray.empty y250 t253))) 3 rfl rfl (hon 4 (by kernel_rfl)) rfl
         replace ha:=aM ha
         have BK211:=aM Q_BK211
         have BK212:=aM Q_BK212
         have HK:=aM Q_HK
         have HB:=aM Q_HB
         have HO252:=aM (Q_HO252 (hon 0 (by kernel_rfl)))
         have HA_HO252:=aM (Q_HA_HO252 (hon 0 (by kernel_rfl)))
         have HI0:=aM (Q_HI0_e2 (hon 2 (by kernel_rfl)))
         refine value_ (w1:=w') (v:=.string (rdOf ByteArray.empty y250 t253)) (by rfl) rfl ?_ ?_
         ·go_simp
          (try simp only [i64_w])
          try rfl
         refine hK.out _ _ ⟨v251,adz_v251,m3_,(by rw [ha.out];exact putSel_upk 5 hb_ rfl rfl rfl),Q_BK211,Q_BK212,fun h0_=>absurd ((hon 2 (by kernel_rfl)).symm.trans h0_) (by decide),Q_HK,Q_HB,Q_HO252,Q_HA_HO252,Q_HI0_e2,Q_X3_⟩
        exact steps_nil
       rintro b a w110 hall ⟨v251,adz_v251,m3_,ha,Q_BK211,Q_BK212,Q_HI0,Q_HK,Q_HB,Q_HO252,Q_HA_HO252,Q_HI0_e2,Q_X3_⟩
       clear BK211 BK212 HB HI0 HK
       have hb0_:=hall 0 (by kernel_rfl)
       have hb2_:=hall 2 (by kernel_rfl)
       have hb3_:=hall 3 (by kernel_rfl)
       have hb4_:=hall 4 (by kernel_rfl)
       have hb5_:=hall 5 (by kernel_rfl)
       have hb6_:=hall 6 (by kernel_rfl)
       subst ha
       obtain rfl:=Q_X3_ hb3_
       simp only [putSel,hb0_,hb2_,hb3_,hb4_,hb5_,hb6_,if_true,Act.put,sI,sZ,sS]
       have BK211:=aM Q_BK211
       clear Q_BK211
       have BK212:=aM Q_BK212
       clear Q_BK212
       clear Q_HI0
       have HK:=aM Q_HK
       clear Q_HK
       have HB:=aM Q_HB
       clear Q_HB
       have HO252:=aM (Q_HO252 hb0_)
       clear Q_HO252
       have HA_HO252:=aM (Q_HA_HO252 hb0_)
       clear Q_HA_HO252
       have HI0:=aM (Q_HI0_e2 hb2_)
       clear Q_HI0_e2
       clear hall hb0_ hb2_ hb3_ hb4_ hb5_ hb6_
       obtain ⟨co111,eo111⟩:=HA_HO252.out
       clear HA_HO252
       subst eo111
       try go_wp2_with (first|((with_reducible refine gate_callee (f:=18) rfl ?_);refine goesL_ (some 23) rfl rfl Try.func18 (by kernel_rfl) rfl #[.pointer (some ⟨g,0,none⟩),.int .i64 4] rfl (by (try simp only [sM,sC,sN]);first|done|rfl|(simp only [List.length_drop,List.length_take];rfl)) ?_;(with_reducible refine (spec_l01Next.calls g s0_0 t254 t255 4 t257 t258 t259 w0 _ ?side1 ?side2 A104.out).mono ?_);(case side1=>repeat (first|(with_reducible first|exact HI0.out|apply iA|apply iN|apply iD|apply IsS57.set_1|apply IsS57.set_2|refine IsS57.far ?_ NB0_211.out _|refine IsS57.far ?_ NB0_212.out _)|exact HI0.out));(case side2=>repeat (first|(with_reducible first|exact HB.out|apply zA|apply zN|apply zD|refine zS ?_ (IsS57.ge HI0.out)|refine zS ?_ GE211.out|refine zS ?_ GE212.out)|exact HB.out));rintro e w112 ⟨rfl,hi,hb,hk⟩;refine ⟨_,rfl,?_⟩;replace BK211:=aM (KeepBut.blk hk (g':=gb211) (o:=.cells #[.string ⟨#[]⟩,.string ⟨#[]⟩] 25 (0,0)) BK211.out NB211_0.out (by simp));replace BK212:=aM (KeepBut.blk hk (g':=gb212) (o:=.cells #[.string ⟨#[]⟩,.string ⟨#[]⟩] 25 (0,0)) BK212.out NB212_0.out (by simp));replace HO252:=aM (Kd.R_mono (Kd.R_keep (IsS57.apart (show IsS57 w0 _ g s0_0 t254 t255 from HI0.out) HO252.out (by decide)) hk (fun _ h=>h.2)) (fun _ h=>h.1));replace HK:=aM (KeepBut.trans HK.out hk (.inl rfl));replace HB:=aM (hb);replace HI0:=aM (hi);(try clear hb);(try clear hb2);(try clear hk);(try clear hi)))
       go_loopg [10,12] k (fun kq v10 v12 w'=>∃ (x10_1:ByteArray) (x12_1:Int) (x1001_1:Int) (x1002_1:Int),v10 = .string x10_1 ∧ v12 = .int .i64 x12_1 ∧ Aside0 (spec_l02Draw.l0 kq x10_1 (rdOf ByteArray.empty y250 t253) x12_1 s0_0 x1001_1 x1002_1 = some (r1,r2,r3,r4)) ∧ Aside0 (kq ≤ k) ∧ Aside0 (w'.heap[gb211]? = some (.cells #[.string ⟨#[]⟩,.string ⟨#[]⟩] 25 (0,0))) ∧ Aside0 (w'.heap[gb212]? = some (.cells #[.string ⟨#[]⟩,.string ⟨#[]⟩] 25 (0,0))) ∧ Aside0 (IsS57 w0 w' g s0_0 x1001_1 x1002_1) ∧ Aside0 (KeepBut w w' g none) ∧ Aside0 (Below w0.heap.size w0 w'))
       case atStart=>exact ⟨((⟨#[]⟩:ByteArray)),(t257),(t258),(t259),(by first|rfl|(simp;done)|(simp [*];done)),(by first|rfl|(simp;done)|(simp [*];done)),H',⟨Nat.le_refl _⟩,⟨BK211.out⟩,⟨BK212.out⟩,⟨HI0.out⟩,⟨HK.out⟩,⟨HB.out⟩⟩
       case round =>
        clear H'
        try clear c1
        try clear p2
        try clear qi2
        try clear c3
        try clear c5
        try clear c6
        try clear c7
        try clear c8
        try clear c9
        try clear c10
        try clear c16
        try clear c16b0
        try clear c16b1
        try clear c18
        try clear qi25
        try clear c32
        try clear c33
        try clear c34
        try clear c59
        try clear c60
        try clear c61
        try clear c63
        try clear c63b0
        try clear c63b1
        try clear c66
        try clear c69
        try clear c70
        try clear c71
        try clear c75
        try clear c76
        try clear c77
        try clear c78
        try clear c80
        try clear c81
        try clear c86
        try clear c87
        try clear c88
        try clear c92
        try clear c93
        try clear c94
        try clear c95
        try clear c98
        try clear c99
        try clear c102
        try clear c102b0
        try clear c103
        try clear c103b0
        try clear hcz100_0
        try clear hcz100_1
        try clear hcz62_0
        try clear hcz62_1
        try clear hcz72_0
        try clear hcz72_1
        try clear hcz79_0
        try clear hcz79_1
        try clear hcz82_0
        try clear hcz82_1
        try clear hcz89_0
        try clear hcz89_1
        try clear hcz96_0
        try clear hcz96_1
        try clear hfz100_0
        try clear hfz100_1
        try clear hfz62_0
        try clear hfz62_1
        try clear hfz72_0
        try clear hfz72_1
        try clear hfz79_0
        try clear hfz79_1
        try clear hfz82_0
        try clear hfz82_1
        try clear hfz89_0
        try clear hfz89_1
        try clear hfz96_0
        try clear hfz96_1
        obtain ⟨x10_1,x12_1,x1001_1,x1002_1,rfl,rfl,HA,HK1,BK211,BK212,HI0,HK,HB⟩:=hrel
        cases gk with
        | zero=>exact absurd HA.out (by simp [spec_l02Draw.l0])
        | succ k1 =>
         have H:=HA.out
         clear HA
         simp only [spec_l02Draw.l0] at H
         by_cases c113:x12_1 > 0
         ·rw [if_pos c113] at H
          have c113b0:decide (0 < x12_1) = true:=decide_eq_true c113
          clear c113
          obtain ⟨y260,hy260⟩:∃ y_:List ByteArray,y_ = (([⟨#[48]⟩,⟨#[49]⟩,⟨#[48]⟩,⟨#[49]⟩,⟨#[42]⟩]:List ByteArray)):=⟨_,rfl⟩
          replace H:((spec_l01Next.f s0_0 x1001_1 x1002_1 5).bind fun bt263=>(if 0 ≤ bt263.1 then (if bt263.1 < (y260.length:Int) then (if x10_1.size + (rdOf ByteArray.empty y260 bt263.1).size ≤ 9223372036854775807 then (spec_l02Draw.l0 k1 (x10_1 ++ (rdOf ByteArray.empty y260 bt263.1)) (rdOf ByteArray.empty y250 t253) (wrap64 (x12_1 - 1)) s0_0 bt263.2.1 bt263.2.2) else (none)) else (none)) else (none))) = some (r1,r2,r3,r4):=by first|(rw [hy260];with_reducible exact H)|(have H2_:=(Option.bind_some _ _).symm.trans H;rw [hy260];with_reducible exact H2_)|(have H2_:=(Option.bind_some _ _).symm.trans H;with_reducible exact H2_)|with_reducible exact H|(rw [hy260];exact H)|exact H
          have Ny260:=aM hy260
          clear hy260
          replace H:=Option.bind_eq_some_iff.mp H
          obtain ⟨⟨t263,t264,t265⟩,A1140,H⟩:=H
          replace H:(if 0 ≤ t263 then (if t263 < (y260.length:Int) then (if x10_1.size + (rdOf ByteArray.empty y260 t263).size ≤ 9223372036854775807 then (spec_l02Draw.l0 k1 (x10_1 ++ (rdOf ByteArray.empty y260 t263)) (rdOf ByteArray.empty y250 t253) (wrap64 (x12_1 - 1)) s0_0 t264 t265) else (none)) else (none)) else (none)) = some (r1,r2,r3,r4):=H
          have A114:=aM A1140
          clear A1140
          by_cases c115:0 ≤ t263
          ·rw [if_pos c115] at H
           have c115b0:decide (0 ≤ t263) = true:=decide_eq_true c115
           clear c115
           by_cases c116:t263 < (y260.length:Int)
           ·rw [if_pos c116] at H
            have c116b0:decide (t263 < (y260.length:Int)) = true:=decide_eq_true c116
            clear c116
            by_cases c117:x10_1.size + (rdOf ByteArray.empty y260 t263).size ≤ 9223372036854775807
            ·rw [if_pos c117] at H
             have c117b0:=eq_true c117
             have c117b1:decide (x10_1.size + (rdOf ByteArray.empty y260 t263).size ≤ 9223372036854775807) = true:=decide_eq_true c117
             try have c117b2:(9223372036854775807 < x10_1.size + (rdOf ByteArray.empty y260 t263).size) = False:=eq_false (Nat.not_lt.2 c117)
             have H':=aM H
             clear H
             go_wp2_with (first|((with_reducible refine gate_dst (N:=29) rfl ?_);refine Kd.R_lit Kd.string _ 9 ?hg (N:=29) ?hd (xs:=([⟨#[48]⟩,⟨#[49]⟩,⟨#[48]⟩,⟨#[49]⟩,⟨#[42]⟩]:List ByteArray)) (inner:=[.string ⟨#[48]⟩,.string ⟨#[49]⟩,.string ⟨#[48]⟩,.string ⟨#[49]⟩,.string ⟨#[42]⟩]) (ok:=fun _=>True) (okp:=fun _=>True) ?hr ?hp (fun _ hk=>hk) trivial (Below.refl _ _) (Nat.le_refl _) (by simp) ?_;(case hd=>rfl);(case hg=>rfl);(case hr=>first|(go_simp;done)|(go_simp;rfl));(case hp=>exact (Reps.one (show Kd.M Kd.string _ _ _ (⟨#[48]⟩:ByteArray) [.string ⟨#[48]⟩] from rfl) (Reps.one (show Kd.M Kd.string _ _ _ (⟨#[49]⟩:ByteArray) [.string ⟨#[49]⟩] from rfl) (Reps.one (show Kd.M Kd.string _ _ _ (⟨#[48]⟩:ByteArray) [.string ⟨#[48]⟩] from rfl) (Reps.one (show Kd.M Kd.string _ _ _ (⟨#[49]⟩:ByteArray) [.string ⟨#[49]⟩] from rfl) (Reps.one (show Kd.M Kd.string _ _ _ (⟨#[42]⟩:ByteArray) [.string ⟨#[42]⟩] from rfl) (Reps.none _ _)))))));intro v261 w118 ho119 hb hg_ hnew_;clear hg_ hnew_;(first|rw [← Ny260.out] at ho119|(simp only [Int.reduceToNat] at ho119;rw [← Ny260.out] at ho119));have n0_:=aM (Kd.R_lower ho119 (keep_size (w:=w) (g:=g) (row:=none) HK.out));have n1_:=aM (blk_below (g:=gb211) (o:=.cells #[.string ⟨#[]⟩,.string ⟨#[]⟩] 25 (0,0)) BK211.out hb);have n2_:=aM (blk_below (g:=gb212) (o:=.cells #[.string ⟨#[]⟩,.string ⟨#[]⟩] 25 (0,0)) BK212.out hb);have n3_:=aM (IsS57.below HI0.out hb);have n4_:=aM (KeepBut.trans HK.out (KeepBut.of_below hb g none) (.inl rfl));have n5_:=aM (below_step HB.out hb);clear BK211;clear BK212;clear HI0;clear HK;clear HB;have HO262:=n0_;have BK211:=n1_;have BK212:=n2_;have HI0:=n3_;have HK:=n4_;have HB:=n5_;clear n0_ n1_ n2_ n3_ n4_ n5_;clear hb ho119)|((with_reducible refine gate_callee (f:=18) rfl ?_);refine goesL_ (some 31) rfl rfl Try.func18 (by kernel_rfl) rfl #[.pointer (some ⟨g,0,none⟩),.int .i64 5] rfl (by (try simp only [sM,sC,sN]);first|done|rfl|(simp only [List.length_drop,List.length_take];rfl)) ?_;(with_reducible refine (spec_l01Next.calls g s0_0 x1001_1 x1002_1 5 t263 t264 t265 w0 _ ?side1 ?side2 A114.out).mono ?_);(case side1=>repeat (first|(with_reducible first|exact HI0.out|apply iA|apply iN|apply iD|apply IsS57.set_1|apply IsS57.set_2|refine IsS57.far ?_ NB0_211.out _|refine IsS57.far ?_ NB0_212.out _)|exact HI0.out));(case side2=>repeat (first|(with_reducible first|exact HB.out|apply zA|apply zN|apply zD|refine zS ?_ (IsS57.ge HI0.out)|refine zS ?_ GE211.out|refine zS ?_ GE212.out)|exact HB.out));rintro e w120 ⟨rfl,hi,hb,hk⟩;refine ⟨_,rfl,?_⟩;replace BK211:=aM (KeepBut.blk hk (g':=gb211) (o:=.cells #[.string ⟨#[]⟩,.string ⟨#[]⟩] 25 (0,0)) BK211.out NB211_0.out (by simp));replace BK212:=aM (KeepBut.blk hk (g':=gb212) (o:=.cells #[.string ⟨#[]⟩,.string ⟨#[]⟩] 25 (0,0)) BK212.out NB212_0.out (by simp));replace HO262:=aM (Kd.R_mono (Kd.R_keep (IsS57.apart (show IsS57 w0 _ g s0_0 x1001_1 x1002_1 from HI0.out) HO262.out (by decide)) hk (fun _ h=>h.2)) (fun _ h=>h.1));replace HK:=aM (KeepBut.trans HK.out hk (.inl rfl));replace HB:=aM (hb);replace HI0:=aM (hi);(try clear hb);(try clear hb2);(try clear hk);(try clear hi);obtain ⟨Ao121,co121,eo121⟩:=Kd.R_slice HO262.out;subst eo121;have p266:0 ≤ (t263:Int):=of_decide_eq_true (by first|(with_reducible assumption)|assumption);have q266:t263 < (y260.length:Int):=of_decide_eq_true (by first|(with_reducible assumption)|assumption);obtain ⟨ad266,e266,hx266_0⟩:=Kd.at_string (Kd.R_reads' HO262.out).2.2 t263 p266 q266;cases e266;replace p266:=eq_true p266;replace q266:=eq_true q266))
             go_roundg k1
             case measure=>have:=HK1.out;omega
             case rel=>exact ⟨(x10_1 ++ (rdOf ByteArray.empty y260 t263)),(wrap64 (x12_1 - 1)),(t264),(t265),(by first|rfl|(simp;done)|(simp [*];done)),(by first|rfl|(simp;done)|(simp [*];done)),H',⟨by have:=HK1.out;omega⟩,⟨BK211.out⟩,⟨BK212.out⟩,⟨HI0.out⟩,⟨HK.out⟩,⟨HB.out⟩⟩
            ·rw [if_neg c117] at H
             exact absurd H (by simp)
           ·rw [if_neg c116] at H
            exact absurd H (by simp)
          ·rw [if_neg c115] at H
           exact absurd H (by simp)
         ·rw [if_neg c113] at H
          have c113b0:decide (0 < x12_1) = false:=decide_eq_false c113
          clear c113
          replace H:=Option.bind_eq_some_iff.mp H
          obtain ⟨⟨t267,t268,t269⟩,A1220,H⟩:=H
          replace H:(spec_l02Draw.l1 k1 x10_1 (rdOf ByteArray.empty y250 t253) t267 s0_0 t268 t269) = some (r1,r2,r3,r4):=H
          have A122:=aM A1220
          clear A1220
          have H':=aM H
          clear H
          go_wp2_with (first|((with_reducible refine gate_callee (f:=18) rfl ?_);refine goesL_ (some 36) rfl rfl Try.func18 (by kernel_rfl) rfl #[.pointer (some ⟨g,0,none⟩),.int .i64 6] rfl (by (try simp only [sM,sC,sN]);first|done|rfl|(simp only [List.length_drop,List.length_take];rfl)) ?_;(with_reducible refine (spec_l01Next.calls g s0_0 x1001_1 x1002_1 6 t267 t268 t269 w0 _ ?side1 ?side2 A122.out).mono ?_);(case side1=>repeat (first|(with_reducible first|exact HI0.out|apply iA|apply iN|apply iD|apply IsS57.set_1|apply IsS57.set_2|refine IsS57.far ?_ NB0_211.out _|refine IsS57.far ?_ NB0_212.out _)|exact HI0.out));(case side2=>repeat (first|(with_reducible first|exact HB.out|apply zA|apply zN|apply zD|refine zS ?_ (IsS57.ge HI0.out)|refine zS ?_ GE211.out|refine zS ?_ GE212.out)|exact HB.out));rintro e w123 ⟨rfl,hi,hb,hk⟩;refine ⟨_,rfl,?_⟩;replace BK211:=aM (KeepBut.blk hk (g':=gb211) (o:=.cells #[.string ⟨#[]⟩,.string ⟨#[]⟩] 25 (0,0)) BK211.out NB211_0.out (by simp));replace BK212:=aM (KeepBut.blk hk (g':=gb212) (o:=.cells #[.string ⟨#[]⟩,.string ⟨#[]⟩] 25 (0,0)) BK212.out NB212_0.out (by simp));replace HK:=aM (KeepBut.trans HK.out hk (.inl rfl));replace HB:=aM (hb);replace HI0:=aM (hi);(try clear hb);(try clear hb2);(try clear hk);(try clear hi)))
          go_loopg [11,13] k1 (fun kq v11 v13 w'=>∃ (x11_2:ByteArray) (x13_2:Int) (x1001_2:Int) (x1002_2:Int),v11 = .string x11_2 ∧ v13 = .int .i64 x13_2 ∧ Aside0 (spec_l02Draw.l1 kq x10_1 x11_2 x13_2 s0_0 x1001_2 x1002_2 = some (r1,r2,r3,r4)) ∧ Aside0 (kq ≤ k1) ∧ Aside0 (w'.heap[gb211]? = some (.cells #[.string ⟨#[]⟩,.string ⟨#[]⟩] 25 (0,0))) ∧ Aside0 (w'.heap[gb212]? = some (.cells #[.string ⟨#[]⟩,.string ⟨#[]⟩] 25 (0,0))) ∧ Aside0 (IsS57 w0 w' g s0_0 x1001_2 x1002_2) ∧ Aside0 (KeepBut w w' g none) ∧ Aside0 (Below w0.heap.size w0 w'))
          case atStart=>exact ⟨((rdOf ByteArray.empty y250 t253)),(t267),(t268),(t269),(by first|rfl|(simp;done)|(simp [*];done)),(by first|rfl|(simp;done)|(simp [*];done)),H',⟨Nat.le_refl _⟩,⟨BK211.out⟩,⟨BK212.out⟩,⟨HI0.out⟩,⟨HK.out⟩,⟨HB.out⟩⟩
          case round =>
           clear H'
           try clear c1
           try clear p2
           try clear q2
           try clear hx2
           try clear qi2
           try clear c3
           try clear c5
           try clear c6
           try clear p6
           try clear c7
           try clear c8
           try clear c9
           try clear c10
           try clear c11
           try clear c16
           try clear c16b0
           try clear c16b1
           try clear c18
           try clear qi25
           try clear p26
           try clear q26
           try clear hx26
           try clear c32
           try clear c33
           try clear c34
           try clear c59
           try clear c60
           try clear c61
           try clear c63
           try clear c63b0
           try clear c63b1
           try clear p64
           try clear c66
           try clear c69
           try clear c70
           try clear c71
           try clear c75
           try clear c76
           try clear c77
           try clear c78
           try clear c80
           try clear c81
           try clear c86
           try clear c87
           try clear c88
           try clear c92
           try clear c93
           try clear c94
           try clear c95
           try clear c98
           try clear c99
           try clear c102
           try clear c102b0
           try clear c103
           try clear c103b0
           try clear c113
           try clear c113b0
           try clear c115
           try clear c115b0
           try clear c116
           try clear c116b0
           try clear c117
           try clear c117b0
           try clear c117b1
           try clear c117b2
           try clear hcz100_0
           try clear hcz100_1
           try clear hcz62_0
           try clear hcz62_1
           try clear hcz72_0
           try clear hcz72_1
           try clear hcz79_0
           try clear hcz79_1
           try clear hcz82_0
           try clear hcz82_1
           try clear hcz89_0
           try clear hcz89_1
           try clear hcz96_0
           try clear hcz96_1
           try clear hfz100_0
           try clear hfz100_1
           try clear hfz62_0
           try clear hfz62_1
           try clear hfz72_0
           try clear hfz72_1
           try clear hfz79_0
           try clear hfz79_1
           try clear hfz82_0
           try clear hfz82_1
           try clear hfz89_0
           try clear hfz89_1
           try clear hfz96_0
           try clear hfz96_1
           try clear hx266_0
           try clear p2
           try clear p266
           try clear q266
           obtain ⟨x11_2,x13_2,x1001_2,x1002_2,rfl,rfl,HA,HK2,BK211,BK212,HI0,HK,HB⟩:=hrel
           cases gk with
           | zero=>exact absurd HA.out (by simp [spec_l02Draw.l1])
           | succ k2 =>
            have H:=HA.out
            clear HA
            simp only [spec_l02Draw.l1] at H
            by_cases c124:x13_2 > 0
            ·rw [if_pos c124] at H
             have c124b0:decide (0 < x13_2) = true:=decide_eq_true c124
             clear c124
             obtain ⟨y270,hy270⟩:∃ y_:List ByteArray,y_ = (([⟨#[48]⟩,⟨#[49]⟩,⟨#[48]⟩,⟨#[49]⟩,⟨#[42]⟩]:List ByteArray)):=⟨_,rfl⟩
             replace H:((spec_l01Next.f s0_0 x1001_2 x1002_2 5).bind fun bt273=>(if 0 ≤ bt273.1 then (if bt273.1 < (y270.length:Int) then (if x11_2.size + (rdOf ByteArray.empty y270 bt273.1).size ≤ 9223372036854775807 then (spec_l02Draw.l1 k2 x10_1 (x11_2 ++ (rdOf ByteArray.empty y270 bt273.1)) (wrap64 (x13_2 - 1)) s0_0 bt273.2.1 bt273.2.2) else (none)) else (none)) else (none))) = some (r1,r2,r3,r4):=by first|(rw [hy270];with_reducible exact H)|(have H2_:=(Option.bind_some _ _).symm.trans H;rw [hy270];with_reducible exact H2_)|(have H2_:=(Option.bind_some _ _).symm.trans H;with_reducible exact H2_)|with_reducible exact H|(rw [hy270];exact H)|exact H
             have Ny270:=aM hy270
             clear hy270
             replace H:=Option.bind_eq_some_iff.mp H
             obtain ⟨⟨t273,t274,t275⟩,A1250,H⟩:=H
             replace H:(if 0 ≤ t273 then (if t273 < (y270.length:Int) then (if x11_2.size + (rdOf ByteArray.empty y270 t273).size ≤ 9223372036854775807 then (spec_l02Draw.l1 k2 x10_1 (x11_2 ++ (rdOf ByteArray.empty y270 t273)) (wrap64 (x13_2 - 1)) s0_0 t274 t275) else (none)) else (none)) else (none)) = some (r1,r2,r3,r4):=H
             have A125:=aM A1250
             clear A1250
             by_cases c126:0 ≤ t273
             ·rw [if_pos c126] at H
              have c126b0:decide (0 ≤ t273) = true:=decide_eq_true c126
              clear c126
              by_cases c127:t273 < (y270.length:Int)
              ·rw [if_pos c127] at H
               have c127b0:decide (t273 < (y270.length:Int)) = true:=decide_eq_true c127
               clear c127
               by_cases c128:x11_2.size + (rdOf ByteArray.empty y270 t273).size ≤ 9223372036854775807
               ·rw [if_pos c128] at H
                have c128b0:=eq_true c128
                have c128b1:decide (x11_2.size + (rdOf ByteArray.empty y270 t273).size ≤ 9223372036854775807) = true:=decide_eq_true c128
                try have c128b2:(9223372036854775807 < x11_2.size + (rdOf ByteArray.empty y270 t273).size) = False:=eq_false (Nat.not_lt.2 c128)
                have H':=aM H
                clear H
                go_wp2_with (first|((with_reducible refine gate_dst (N:=42) rfl ?_);refine Kd.R_lit Kd.string _ 9 ?hg (N:=42) ?hd (xs:=([⟨#[48]⟩,⟨#[49]⟩,⟨#[48]⟩,⟨#[49]⟩,⟨#[42]⟩]:List ByteArray)) (inner:=[.string ⟨#[48]⟩,.string ⟨#[49]⟩,.string ⟨#[48]⟩,.string ⟨#[49]⟩,.string ⟨#[42]⟩]) (ok:=fun _=>True) (okp:=fun _=>True) ?hr ?hp (fun _ hk=>hk) trivial (Below.refl _ _) (Nat.le_refl _) (by simp) ?_;(case hd=>rfl);(case hg=>rfl);(case hr=>first|(go_simp;done)|(go_simp;rfl));(case hp=>exact (Reps.one (show Kd.M Kd.string _ _ _ (⟨#[48]⟩:ByteArray) [.string ⟨#[48]⟩] from rfl) (Reps.one (show Kd.M Kd.string _ _ _ (⟨#[49]⟩:ByteArray) [.string ⟨#[49]⟩] from rfl) (Reps.one (show Kd.M Kd.string _ _ _ (⟨#[48]⟩:ByteArray) [.string ⟨#[48]⟩] from rfl) (Reps.one (show Kd.M Kd.string _ _ _ (⟨#[49]⟩:ByteArray) [.string ⟨#[49]⟩] from rfl) (Reps.one (show Kd.M Kd.string _ _ _ (⟨#[42]⟩:ByteArray) [.string ⟨#[42]⟩] from rfl) (Reps.none _ _)))))));intro v271 w129 ho130 hb hg_ hnew_;clear hg_ hnew_;(first|rw [← Ny270.out] at ho130|(simp only [Int.reduceToNat] at ho130;rw [← Ny270.out] at ho130));have n0_:=aM (Kd.R_lower ho130 (keep_size (w:=w) (g:=g) (row:=none) HK.out));have n1_:=aM (blk_below (g:=gb211) (o:=.cells #[.string ⟨#[]⟩,.string ⟨#[]⟩] 25 (0,0)) BK211.out hb);have n2_:=aM (blk_below (g:=gb212) (o:=.cells #[.string ⟨#[]⟩,.string ⟨#[]⟩] 25 (0,0)) BK212.out hb);have n3_:=aM (IsS57.below HI0.out hb);have n4_:=aM (KeepBut.trans HK.out (KeepBut.of_below hb g none) (.inl rfl));have n5_:=aM (below_step HB.out hb);clear BK211;clear BK212;clear HI0;clear HK;clear HB;have HO272:=n0_;have BK211:=n1_;have BK212:=n2_;have HI0:=n3_;have HK:=n4_;have HB:=n5_;clear n0_ n1_ n2_ n3_ n4_ n5_;clear hb ho130)|((with_reducible refine gate_callee (f:=18) rfl ?_);refine goesL_ (some 44) rfl rfl Try.func18 (by kernel_rfl) rfl #[.pointer (some ⟨g,0,none⟩),.int .i64 5] rfl (by (try simp only [sM,sC,sN]);first|done|rfl|(simp only [List.length_drop,List.length_take];rfl)) ?_;(with_reducible refine (spec_l01Next.calls g s0_0 x1001_2 x1002_2 5 t273 t274 t275 w0 _ ?side1 ?side2 A125.out).mono ?_);(case side1=>repeat (first|(with_reducible first|exact HI0.out|apply iA|apply iN|apply iD|apply IsS57.set_1|apply IsS57.set_2|refine IsS57.far ?_ NB0_211.out _|refine IsS57.far ?_ NB0_212.out _)|exact HI0.out));(case side2=>repeat (first|(with_reducible first|exact HB.out|apply zA|apply zN|apply zD|refine zS ?_ (IsS57.ge HI0.out)|refine zS ?_ GE211.out|refine zS ?_ GE212.out)|exact HB.out));rintro e w131 ⟨rfl,hi,hb,hk⟩;refine ⟨_,rfl,?_⟩;replace BK211:=aM (KeepBut.blk hk (g':=gb211) (o:=.cells #[.string ⟨#[]⟩,.string ⟨#[]⟩] 25 (0,0)) BK211.out NB211_0.out (by simp));replace BK212:=aM (KeepBut.blk hk (g':=gb212) (o:=.cells #[.string ⟨#[]⟩,.string ⟨#[]⟩] 25 (0,0)) BK212.out NB212_0.out (by simp));replace HO272:=aM (Kd.R_mono (Kd.R_keep (IsS57.apart (show IsS57 w0 _ g s0_0 x1001_2 x1002_2 from HI0.out) HO272.out (by decide)) hk (fun _ h=>h.2)) (fun _ h=>h.1));replace HK:=aM (KeepBut.trans HK.out hk (.inl rfl));replace HB:=aM (hb);replace HI0:=aM (hi);(try clear hb);(try clear hb2);(try clear hk);(try clear hi);obtain ⟨Ao132,co132,eo132⟩:=Kd.R_slice HO272.out;subst eo132;have p276:0 ≤ (t273:Int):=of_decide_eq_true (by first|(with_reducible assumption)|assumption);have q276:t273 < (y270.length:Int):=of_decide_eq_true (by first|(with_reducible assumption)|assumption);obtain ⟨ad276,e276,hx276_0⟩:=Kd.at_string (Kd.R_reads' HO272.out).2.2 t273 p276 q276;cases e276;replace p276:=eq_true p276;replace q276:=eq_true q276))
                go_roundg k2
                case measure=>have:=HK1.out;have:=HK2.out;omega
                case rel=>exact ⟨(x11_2 ++ (rdOf ByteArray.empty y270 t273)),(wrap64 (x13_2 - 1)),(t274),(t275),(by first|rfl|(simp;done)|(simp [*];done)),(by first|rfl|(simp;done)|(simp [*];done)),H',⟨by have:=HK1.out;have:=HK2.out;omega⟩,⟨BK211.out⟩,⟨BK212.out⟩,⟨HI0.out⟩,⟨HK.out⟩,⟨HB.out⟩⟩
               ·rw [if_neg c128] at H
                exact absurd H (by simp)
              ·rw [if_neg c127] at H
               exact absurd H (by simp)
             ·rw [if_neg c126] at H
              exact absurd H (by simp)
            ·rw [if_neg c124] at H
             have c124b0:decide (0 < x13_2) = false:=decide_eq_false c124
             clear c124
             replace H:=Option.bind_eq_some_iff.mp H
             obtain ⟨⟨t277,t278⟩,A1330,H⟩:=H
             replace H:(spec_l02Draw.j2 k2 s0_0 x1001_2 x1002_2 t277 t278) = some (r1,r2,r3,r4):=H
             have A133:=aM A1330
             clear A1330
             have H':=aM H
             clear H
             go_wp2_with (first|((with_reducible refine gate_callee (f:=35) rfl ?_);refine goesL_ (some 50) rfl rfl Try.func35 (by kernel_rfl) rfl #[.string x10_1,.string x11_2] rfl (by (try simp only [sM,sC,sN]);first|done|rfl|(simp only [List.length_drop,List.length_take];rfl)) ?_;(with_reducible refine (spec_l01Canonical.calls k2 x10_1 x11_2 t277 t278 _ A133.out).mono ?_);rintro e w134 ⟨rfl,hb⟩;refine ⟨_,rfl,?_⟩;have n0_:=aM (blk_below (g:=gb211) (o:=.cells #[.string ⟨#[]⟩,.string ⟨#[]⟩] 25 (0,0)) BK211.out hb);have n1_:=aM (blk_below (g:=gb212) (o:=.cells #[.string ⟨#[]⟩,.string ⟨#[]⟩] 25 (0,0)) BK212.out hb);have n2_:=aM (IsS57.below HI0.out hb);have n3_:=aM (KeepBut.trans HK.out (KeepBut.of_below hb g none) (.inl rfl));have n4_:=aM (below_step HB.out hb);clear BK211;clear BK212;clear HI0;clear HK;clear HB;have BK211:=n0_;have BK212:=n1_;have HI0:=n2_;have HK:=n3_;have HB:=n4_;clear n0_ n1_ n2_ n3_ n4_;(try clear hb);(try clear hb2);(try clear hk);(try clear hi);have hnb135:=NB212_211.out;have hnc135:=NB211_212.out;have hnb136:=NB212_0.out;have hnc136:=NB0_212.out;have hcz137_0:w134.cell? ⟨gb212,0,none⟩ = some (.string ⟨#[]⟩):=(blk_cell BK212.out 0).trans rfl;have hcz137_1:w134.cell? ⟨gb212,1,none⟩ = some (.string ⟨#[]⟩):=(blk_cell BK212.out 1).trans rfl;have hfz137_0:=blk_frozen BK212.out 0;have hfz137_1:=blk_frozen BK212.out 1))
             go_meet
             case rel=>exact ⟨_,(x1001_2),(x1002_2),(t277),(t278),H',⟨by have:=HK1.out;have:=HK2.out;first|omega|exact Nat.le_refl _⟩,⟨by (with_reducible repeat (first|refine yN ?_ _|refine yD ?_|refine yA ?_ _));refine blk_far ?_ NB211_212.out _;(with_reducible repeat (first|refine yN ?_ _|refine yD ?_|refine yA ?_ _));refine blk_far ?_ NB211_212.out _;(with_reducible repeat (first|refine yN ?_ _|refine yD ?_|refine yA ?_ _));exact BK211.out⟩,⟨by (with_reducible repeat (first|refine yN ?_ _|refine yD ?_|refine yA ?_ _));refine blk_put (cs:=#[.string t277,.string ⟨#[]⟩]) ?_ 1 _ rfl;(with_reducible repeat (first|refine yN ?_ _|refine yD ?_|refine yA ?_ _));refine blk_put (cs:=#[.string ⟨#[]⟩,.string ⟨#[]⟩]) ?_ 0 _ rfl;(with_reducible repeat (first|refine yN ?_ _|refine yD ?_|refine yA ?_ _));exact BK212.out⟩,⟨by repeat (first|(with_reducible first|exact HI0.out|apply iA|apply iN|apply iD|apply IsS57.set_1|apply IsS57.set_2|refine IsS57.far ?_ NB0_211.out _|refine IsS57.far ?_ NB0_212.out _)|exact HI0.out)⟩,⟨by repeat (first|(with_reducible first|exact HK.out|apply kS|apply kN|apply kD|apply kA|refine kF ?_ GW211.out _|refine kF ?_ GW212.out _)|exact HK.out)⟩,⟨by repeat (first|(with_reducible first|exact HB.out|apply zA|apply zN|apply zD|refine zS ?_ (IsS57.ge HI0.out)|refine zS ?_ GE211.out|refine zS ?_ GE212.out)|exact HB.out)⟩⟩
      ·rw [if_neg c103] at H
       exact absurd H (by simp)
     ·rw [if_neg c102] at H
      exact absurd H (by simp)
 case rest =>
  clear HC3
  try clear c1
  try clear p2
  try clear q2
  try clear hx2
  try clear qi2
  try clear c3
  try clear c5
  try clear c6
  try clear p6
  try clear c7
  try clear c8
  try clear c9
  try clear c10
  try clear c11
  try clear c12
  try clear c13
  try clear c16
  try clear c16b0
  try clear c16b1
  try clear c18
  try clear qi25
  try clear p26
  try clear q26
  try clear hx26
  try clear p27
  try clear q27
  try clear hx27
  try clear c32
  try clear c33
  try clear c34
  try clear c35
  try clear c59
  try clear c60
  try clear c61
  try clear c63
  try clear c63b0
  try clear c63b1
  try clear p64
  try clear c66
  try clear c69
  try clear c70
  try clear c71
  try clear c75
  try clear c76
  try clear c77
  try clear c78
  try clear c80
  try clear c81
  try clear c86
  try clear c87
  try clear c88
  try clear c92
  try clear c93
  try clear c94
  try clear c95
  try clear c98
  try clear c99
  try clear c102
  try clear c102b0
  try clear c103
  try clear c103b0
  try clear c113
  try clear c113b0
  try clear c115
  try clear c115b0
  try clear c116
  try clear c116b0
  try clear c117
  try clear c117b0
  try clear c117b1
  try clear c117b2
  try clear c124
  try clear c124b0
  try clear c126
  try clear c126b0
  try clear c127
  try clear c127b0
  try clear c128
  try clear c128b0
  try clear c128b1
  try clear c128b2
  try clear c135
  try clear c136
  try clear hcz100_0
  try clear hcz100_1
  try clear hcz137_0
  try clear hcz137_1
  try clear hcz62_0
  try clear hcz62_1
  try clear hcz72_0
  try clear hcz72_1
  try clear hcz79_0
  try clear hcz79_1
  try clear hcz82_0
  try clear hcz82_1
  try clear hcz89_0
  try clear hcz89_1
  try clear hcz96_0
  try clear hcz96_1
  try clear hfz100_0
  try clear hfz100_1
  try clear hfz137_0
  try clear hfz137_1
  try clear hfz62_0
  try clear hfz62_1
  try clear hfz72_0
  try clear hfz72_1
  try clear hfz79_0
  try clear hfz79_1
  try clear hfz82_0
  try clear hfz82_1
  try clear hfz89_0
  try clear hfz89_1
  try clear hfz96_0
  try clear hfz96_1
  try clear hx266_0
  try clear hx276_0
  try clear p2
  try clear p26
  try clear p266
  try clear p276
  try clear p6
  try clear p64
  try clear q2
  try clear q26
  try clear q266
  try clear q276
  obtain ⟨kq,x1001_2,x1002_2,x213000_2,x213001_2,HA,HJ2,BK211,BK212,HI0,HK,HB⟩:=hcut
  cases kq with
  | zero=>exact absurd HA.out (by simp [spec_l02Draw.j2])
  | succ kj2 =>
   have H:=HA.out
   clear HA
   simp only [spec_l02Draw.j2] at H
   replace H:=Option.bind_eq_some_iff.mp H
   obtain ⟨⟨t279,t280,t281⟩,A1380,H⟩:=H
   replace H:(if t279 = 0 then (some (x213000_2,(⟨#[]⟩:ByteArray),t280,t281)) else (if t279 = 1 then (if x213000_2.size + x213001_2.size ≤ 9223372036854775807 then (some (x213000_2 ++ x213001_2,x213001_2,t280,t281)) else (none)) else (if t279 = 2 then (if x213001_2.size + x213001_2.size ≤ 9223372036854775807 then (some (x213000_2,x213001_2 ++ x213001_2,t280,t281)) else (none)) else (if t279 = 3 then (if 1 + x213001_2.size ≤ 9223372036854775807 then (some (x213000_2,(⟨#[50]⟩:ByteArray) ++ x213001_2,t280,t281)) else (none)) else (some (x213000_2,x213001_2,t280,t281)))))) = some (r1,r2,r3,r4):=H
   have A138:=aM A1380
   clear A1380
   by_cases c139:t279 = 0
   ·rw [if_pos c139] at H
    have c139b0:(t279 == 0) = true:=beq_iff_eq.mpr c139
    have c139b1:(t279 != 0) = false:=bne_eq_false_iff_eq.mpr c139
    clear c139
    simp only [Option.some.injEq,Prod.mk.injEq] at H
    obtain ⟨rfl,rfl,rfl,rfl⟩:=H
    go_wp2_with (first|((with_reducible refine gate_callee (f:=18) rfl ?_);refine goesL_ (some 85) rfl rfl Try.func18 (by kernel_rfl) rfl #[.pointer (some ⟨g,0,none⟩),.int .i64 40] rfl (by (try simp only [sM,sC,sN]);first|done|rfl|(simp only [List.length_drop,List.length_take];rfl)) ?_;(with_reducible refine (spec_l01Next.calls g s0_0 x1001_2 x1002_2 40 t279 t280 t281 w0 _ ?side1 ?side2 A138.out).mono ?_);(case side1=>repeat (first|(with_reducible first|exact HI0.out|apply iA|apply iN|apply iD|apply IsS57.set_1|apply IsS57.set_2|refine IsS57.far ?_ NB0_211.out _|refine IsS57.far ?_ NB0_212.out _)|exact HI0.out));(case side2=>repeat (first|(with_reducible first|exact HB.out|apply zA|apply zN|apply zD|refine zS ?_ (IsS57.ge HI0.out)|refine zS ?_ GE211.out|refine zS ?_ GE212.out)|exact HB.out));rintro e w140 ⟨rfl,hi,hb,hk⟩;refine ⟨_,rfl,?_⟩;replace BK211:=aM (KeepBut.blk hk (g':=gb211) (o:=.cells #[.string ⟨#[]⟩,.string ⟨#[]⟩] 25 (0,0)) BK211.out NB211_0.out (by simp));replace BK212:=aM (KeepBut.blk hk (g':=gb212) (o:=.cells #[.string x213000_2,.string x213001_2] 25 (0,0)) BK212.out NB212_0.out (by simp));replace HK:=aM (KeepBut.trans HK.out hk (.inl rfl));replace HB:=aM (hb);replace HI0:=aM (hi);(try clear hb);(try clear hb2);(try clear hk);(try clear hi);have hnb141:=NB212_211.out;have hnc141:=NB211_212.out;have hnb142:=NB212_0.out;have hnc142:=NB0_212.out;have hcz143_0:w140.cell? ⟨gb212,0,none⟩ = some (.string x213000_2):=(blk_cell BK212.out 0).trans rfl;have hcz143_1:w140.cell? ⟨gb212,1,none⟩ = some (.string x213001_2):=(blk_cell BK212.out 1).trans rfl;have hfz143_0:=blk_frozen BK212.out 0;have hfz143_1:=blk_frozen BK212.out 1;have hnb144:=NB211_0.out;have hnc144:=NB0_211.out;have hcz145_0:w140.cell? ⟨gb211,0,none⟩ = some (.string ⟨#[]⟩):=(blk_cell BK211.out 0).trans rfl;have hcz145_1:w140.cell? ⟨gb211,1,none⟩ = some (.string ⟨#[]⟩):=(blk_cell BK211.out 1).trans rfl;have hfz145_0:=blk_frozen BK211.out 0;have hfz145_1:=blk_frozen BK211.out 1))
    refine bodyPost_ret (results_cell_row rfl _ _ gb211 25 #[.string x213000_2,.string ⟨#[]⟩] (0,0) _ rfl (by (with_reducible repeat (first|refine yN ?_ _|refine yD ?_|refine yA ?_ _));refine blk_put (cs:=#[.string x213000_2,.string ⟨#[]⟩]) ?_ 1 _ rfl;(with_reducible repeat (first|refine yN ?_ _|refine yD ?_|refine yA ?_ _));refine blk_put (cs:=#[.string ⟨#[]⟩,.string ⟨#[]⟩]) ?_ 0 _ rfl;(with_reducible repeat (first|refine yN ?_ _|refine yD ?_|refine yA ?_ _));refine blk_far ?_ NB211_212.out _;(with_reducible repeat (first|refine yN ?_ _|refine yD ?_|refine yA ?_ _));exact BK211.out) Try.underlying25 rfl (by kernel_rfl)) rfl ?_
    exact ⟨by first|rfl|(simp [errW_none,errW_some] <;> rfl)|(simp [*,errW_none,errW_some] <;> rfl),by repeat (first|(with_reducible first|exact HI0.out|apply iA|apply iN|apply iD|apply IsS57.set_1|apply IsS57.set_2|refine IsS57.far ?_ NB0_211.out _|refine IsS57.far ?_ NB0_212.out _)|exact HI0.out),by repeat (first|(with_reducible first|exact HB.out|apply zA|apply zN|apply zD|refine zS ?_ (IsS57.ge HI0.out)|refine zS ?_ GE211.out|refine zS ?_ GE212.out)|exact HB.out),by repeat (first|(with_reducible first|exact HK.out|apply kS|apply kN|apply kD|apply kA|refine kF ?_ GW211.out _|refine kF ?_ GW212.out _)|exact HK.out)⟩
   ·rw [if_neg c139] at H
    have c139b0:(t279 == 0) = false:=beq_eq_false_iff_ne.mpr c139
    have c139b1:(t279 != 0) = true:=bne_iff_ne.mpr c139
    by_cases c146:t279 = 1
    ·rw [if_pos c146] at H
     have c146b0:(t279 == 1) = true:=beq_iff_eq.mpr c146
     have c146b1:(t279 != 1) = false:=bne_eq_false_iff_eq.mpr c146
     clear c146
     by_cases c147:x213000_2.size + x213001_2.size ≤ 9223372036854775807
     ·rw [if_pos c147] at H
      have c147b0:=eq_true c147
      have c147b1:decide (x213000_2.size + x213001_2.size ≤ 9223372036854775807) = true:=decide_eq_true c147
      try have c147b2:(9223372036854775807 < x213000_2.size + x213001_2.size) = False:=eq_false (Nat.not_lt.2 c147)
      simp only [Option.some.injEq,Prod.mk.injEq] at H
      obtain ⟨rfl,rfl,rfl,rfl⟩:=H
      go_wp2_with (first|((with_reducible refine gate_callee (f:=18) rfl ?_);refine goesL_ (some 85) rfl rfl Try.func18 (by kernel_rfl) rfl #[.pointer (some ⟨g,0,none⟩),.int .i64 40] rfl (by (try simp only [sM,sC,sN]);first|done|rfl|(simp only [List.length_drop,List.length_take];rfl)) ?_;(with_reducible refine (spec_l01Next.calls g s0_0 x1001_2 x1002_2 40 t279 t280 t281 w0 _ ?side1 ?side2 A138.out).mono ?_);(case side1=>repeat (first|(with_reducible first|exact HI0.out|apply iA|apply iN|apply iD|apply IsS57.set_1|apply IsS57.set_2|refine IsS57.far ?_ NB0_211.out _|refine IsS57.far ?_ NB0_212.out _)|exact HI0.out));(case side2=>repeat (first|(with_reducible first|exact HB.out|apply zA|apply zN|apply zD|refine zS ?_ (IsS57.ge HI0.out)|refine zS ?_ GE211.out|refine zS ?_ GE212.out)|exact HB.out));rintro e w148 ⟨rfl,hi,hb,hk⟩;refine ⟨_,rfl,?_⟩;replace BK211:=aM (KeepBut.blk hk (g':=gb211) (o:=.cells #[.string ⟨#[]⟩,.string ⟨#[]⟩] 25 (0,0)) BK211.out NB211_0.out (by simp));replace BK212:=aM (KeepBut.blk hk (g':=gb212) (o:=.cells #[.string x213000_2,.string x213001_2] 25 (0,0)) BK212.out NB212_0.out (by simp));replace HK:=aM (KeepBut.trans HK.out hk (.inl rfl));replace HB:=aM (hb);replace HI0:=aM (hi);(try clear hb);(try clear hb2);(try clear hk);(try clear hi);have hnb149:=NB212_211.out;have hnc149:=NB211_212.out;have hnb150:=NB212_0.out;have hnc150:=NB0_212.out;have hcz151_0:w148.cell? ⟨gb212,0,none⟩ = some (.string x213000_2):=(blk_cell BK212.out 0).trans rfl;have hcz151_1:w148.cell? ⟨gb212,1,none⟩ = some (.string x213001_2):=(blk_cell BK212.out 1).trans rfl;have hfz151_0:=blk_frozen BK212.out 0;have hfz151_1:=blk_frozen BK212.out 1;have hnb152:=NB211_0.out;have hnc152:=NB0_211.out;have hcz153_0:w148.cell? ⟨gb211,0,none⟩ = some (.string ⟨#[]⟩):=(blk_cell BK211.out 0).trans rfl;have hcz153_1:w148.cell? ⟨gb211,1,none⟩ = some (.string ⟨#[]⟩):=(blk_cell BK211.out 1).trans rfl;have hfz153_0:=blk_frozen BK211.out 0;have hfz153_1:=blk_frozen BK211.out 1))
      refine bodyPost_ret (results_cell_row rfl _ _ gb211 25 #[.string (x213000_2 ++ x213001_2),.string x213001_2] (0,0) _ rfl (by (with_reducible repeat (first|refine yN ?_ _|refine yD ?_|refine yA ?_ _));refine blk_put (cs:=#[.string (x213000_2 ++ x213001_2),.string ⟨#[]⟩]) ?_ 1 _ rfl;(with_reducible repeat (first|refine yN ?_ _|refine yD ?_|refine yA ?_ _));refine blk_put (cs:=#[.string ⟨#[]⟩,.string ⟨#[]⟩]) ?_ 0 _ rfl;(with_reducible repeat (first|refine yN ?_ _|refine yD ?_|refine yA ?_ _));refine blk_far ?_ NB211_212.out _;(with_reducible repeat (first|refine yN ?_ _|refine yD ?_|refine yA ?_ _));exact BK211.out) Try.underlying25 rfl (by kernel_rfl)) rfl ?_
      exact ⟨by first|rfl|(simp [errW_none,errW_some] <;> rfl)|(simp [*,errW_none,errW_some] <;> rfl),by repeat (first|(with_reducible first|exact HI0.out|apply iA|apply iN|apply iD|apply IsS57.set_1|apply IsS57.set_2|refine IsS57.far ?_ NB0_211.out _|refine IsS57.far ?_ NB0_212.out _)|exact HI0.out),by repeat (first|(with_reducible first|exact HB.out|apply zA|apply zN|apply zD|refine zS ?_ (IsS57.ge HI0.out)|refine zS ?_ GE211.out|refine zS ?_ GE212.out)|exact HB.out),by repeat (first|(with_reducible first|exact HK.out|apply kS|apply kN|apply kD|apply kA|refine kF ?_ GW211.out _|refine kF ?_ GW212.out _)|exact HK.out)⟩
     ·rw [if_neg c147] at H
      exact absurd H (by simp)
    ·rw [if_neg c146] at H
     have c146b0:(t279 == 1) = false:=beq_eq_false_iff_ne.mpr c146
     have c146b1:(t279 != 1) = true:=bne_iff_ne.mpr c146
     by_cases c154:t279 = 2
     ·rw [if_pos c154] at H
      have c154b0:(t279 == 2) = true:=beq_iff_eq.mpr c154
      have c154b1:(t279 != 2) = false:=bne_eq_false_iff_eq.mpr c154
      clear c154
      by_cases c155:x213001_2.size + x213001_2.size ≤ 9223372036854775807
      ·rw [if_pos c155] at H
       have c155b0:=eq_true c155
       have c155b1:decide (x213001_2.size + x213001_2.size ≤ 9223372036854775807) = true:=decide_eq_true c155
       try have c155b2:(9223372036854775807 < x213001_2.size + x213001_2.size) = False:=eq_false (Nat.not_lt.2 c155)
       simp only [Option.some.injEq,Prod.mk.injEq] at H
       obtain ⟨rfl,rfl,rfl,rfl⟩:=H
       go_wp2_with (first|((with_reducible refine gate_callee (f:=18) rfl ?_);refine goesL_ (some 85) rfl rfl Try.func18 (by kernel_rfl) rfl #[.pointer (some ⟨g,0,none⟩),.int .i64 40] rfl (by (try simp only [sM,sC,sN]);first|done|rfl|(simp only [List.length_drop,List.length_take];rfl)) ?_;(with_reducible refine (spec_l01Next.calls g s0_0 x1001_2 x1002_2 40 t279 t280 t281 w0 _ ?side1 ?side2 A138.out).mono ?_);(case side1=>repeat (first|(with_reducible first|exact HI0.out|apply iA|apply iN|apply iD|apply IsS57.set_1|apply IsS57.set_2|refine IsS57.far ?_ NB0_211.out _|refine IsS57.far ?_ NB0_212.out _)|exact HI0.out));(case side2=>repeat (first|(with_reducible first|exact HB.out|apply zA|apply zN|apply zD|refine zS ?_ (IsS57.ge HI0.out)|refine zS ?_ GE211.out|refine zS ?_ GE212.out)|exact HB.out));rintro e w156 ⟨rfl,hi,hb,hk⟩;refine ⟨_,rfl,?_⟩;replace BK211:=aM (KeepBut.blk hk (g':=gb211) (o:=.cells #[.string ⟨#[]⟩,.string ⟨#[]⟩] 25 (0,0)) BK211.out NB211_0.out (by simp));replace BK212:=aM (KeepBut.blk hk (g':=gb212) (o:=.cells #[.string x213000_2,.string x213001_2] 25 (0,0)) BK212.out NB212_0.out (by simp));replace HK:=aM (KeepBut.trans HK.out hk (.inl rfl));replace HB:=aM (hb);replace HI0:=aM (hi);(try clear hb);(try clear hb2);(try clear hk);(try clear hi);have hnb157:=NB212_211.out;have hnc157:=NB211_212.out;have hnb158:=NB212_0.out;have hnc158:=NB0_212.out;have hcz159_0:w156.cell? ⟨gb212,0,none⟩ = some (.string x213000_2):=(blk_cell BK212.out 0).trans rfl;have hcz159_1:w156.cell? ⟨gb212,1,none⟩ = some (.string x213001_2):=(blk_cell BK212.out 1).trans rfl;have hfz159_0:=blk_frozen BK212.out 0;have hfz159_1:=blk_frozen BK212.out 1;have hnb160:=NB211_0.out;have hnc160:=NB0_211.out;have hcz161_0:w156.cell? ⟨gb211,0,none⟩ = some (.string ⟨#[]⟩):=(blk_cell BK211.out 0).trans rfl;have hcz161_1:w156.cell? ⟨gb211,1,none⟩ = some (.string ⟨#[]⟩):=(blk_cell BK211.out 1).trans rfl;have hfz161_0:=blk_frozen BK211.out 0;have hfz161_1:=blk_frozen BK211.out 1))
       refine bodyPost_ret (results_cell_row rfl _ _ gb211 25 #[.string x213000_2,.string (x213001_2 ++ x213001_2)] (0,0) _ rfl (by (with_reducible repeat (first|refine yN ?_ _|refine yD ?_|refine yA ?_ _));refine blk_put (cs:=#[.string x213000_2,.string ⟨#[]⟩]) ?_ 1 _ rfl;(with_reducible repeat (first|refine yN ?_ _|refine yD ?_|refine yA ?_ _));refine blk_put (cs:=#[.string ⟨#[]⟩,.string ⟨#[]⟩]) ?_ 0 _ rfl;(with_reducible repeat (first|refine yN ?_ _|refine yD ?_|refine yA ?_ _));refine blk_far ?_ NB211_212.out _;(with_reducible repeat (first|refine yN ?_ _|refine yD ?_|refine yA ?_ _));exact BK211.out) Try.underlying25 rfl (by kernel_rfl)) rfl ?_
       exact ⟨by first|rfl|(simp [errW_none,errW_some] <;> rfl)|(simp [*,errW_none,errW_some] <;> rfl),by repeat (first|(with_reducible first|exact HI0.out|apply iA|apply iN|apply iD|apply IsS57.set_1|apply IsS57.set_2|refine IsS57.far ?_ NB0_211.out _|refine IsS57.far ?_ NB0_212.out _)|exact HI0.out),by repeat (first|(with_reducible first|exact HB.out|apply zA|apply zN|apply zD|refine zS ?_ (IsS57.ge HI0.out)|refine zS ?_ GE211.out|refine zS ?_ GE212.out)|exact HB.out),by repeat (first|(with_reducible first|exact HK.out|apply kS|apply kN|apply kD|apply kA|refine kF ?_ GW211.out _|refine kF ?_ GW212.out _)|exact HK.out)⟩
      ·rw [if_neg c155] at H
       exact absurd H (by simp)
     ·rw [if_neg c154] at H
      have c154b0:(t279 == 2) = false:=beq_eq_false_iff_ne.mpr c154
      have c154b1:(t279 != 2) = true:=bne_iff_ne.mpr c154
      by_cases c162:t279 = 3
      ·rw [if_pos c162] at H
       have c162b0:(t279 == 3) = true:=beq_iff_eq.mpr c162
       have c162b1:(t279 != 3) = false:=bne_eq_false_iff_eq.mpr c162
       clear c162
       by_cases c163:1 + x213001_2.size ≤ 9223372036854775807
       ·rw [if_pos c163] at H
        have c163b0:=eq_true c163
        have c163b1:decide (1 + x213001_2.size ≤ 9223372036854775807) = true:=decide_eq_true c163
        try have c163b2:(9223372036854775807 < 1 + x213001_2.size) = False:=eq_false (Nat.not_lt.2 c163)
        simp only [Option.some.injEq,Prod.mk.injEq] at H
        obtain ⟨rfl,rfl,rfl,rfl⟩:=H
        go_wp2_with (first|((with_reducible refine gate_callee (f:=18) rfl ?_);refine goesL_ (some 85) rfl rfl Try.func18 (by kernel_rfl) rfl #[.pointer (some ⟨g,0,none⟩),.int .i64 40] rfl (by (try simp only [sM,sC,sN]);first|done|rfl|(simp only [List.length_drop,List.length_take];rfl)) ?_;(with_reducible refine (spec_l01Next.calls g s0_0 x1001_2 x1002_2 40 t279 t280 t281 w0 _ ?side1 ?side2 A138.out).mono ?_);(case side1=>repeat (first|(with_reducible first|exact HI0.out|apply iA|apply iN|apply iD|apply IsS57.set_1|apply IsS57.set_2|refine IsS57.far ?_ NB0_211.out _|refine IsS57.far ?_ NB0_212.out _)|exact HI0.out));(case side2=>repeat (first|(with_reducible first|exact HB.out|apply zA|apply zN|apply zD|refine zS ?_ (IsS57.ge HI0.out)|refine zS ?_ GE211.out|refine zS ?_ GE212.out)|exact HB.out));rintro e w164 ⟨rfl,hi,hb,hk⟩;refine ⟨_,rfl,?_⟩;replace BK211:=aM (KeepBut.blk hk (g':=gb211) (o:=.cells #[.string ⟨#[]⟩,.string ⟨#[]⟩] 25 (0,0)) BK211.out NB211_0.out (by simp));replace BK212:=aM (KeepBut.blk hk (g':=gb212) (o:=.cells #[.string x213000_2,.string x213001_2] 25 (0,0)) BK212.out NB212_0.out (by simp));replace HK:=aM (KeepBut.trans HK.out hk (.inl rfl));replace HB:=aM (hb);replace HI0:=aM (hi);(try clear hb);(try clear hb2);(try clear hk);(try clear hi);have hnb165:=NB212_211.out;have hnc165:=NB211_212.out;have hnb166:=NB212_0.out;have hnc166:=NB0_212.out;have hcz167_0:w164.cell? ⟨gb212,0,none⟩ = some (.string x213000_2):=(blk_cell BK212.out 0).trans rfl;have hcz167_1:w164.cell? ⟨gb212,1,none⟩ = some (.string x213001_2):=(blk_cell BK212.out 1).trans rfl;have hfz167_0:=blk_frozen BK212.out 0;have hfz167_1:=blk_frozen BK212.out 1;have hnb168:=NB211_0.out;have hnc168:=NB0_211.out;have hcz169_0:w164.cell? ⟨gb211,0,none⟩ = some (.string ⟨#[]⟩):=(blk_cell BK211.out 0).trans rfl;have hcz169_1:w164.cell? ⟨gb211,1,none⟩ = some (.string ⟨#[]⟩):=(blk_cell BK211.out 1).trans rfl;have hfz169_0:=blk_frozen BK211.out 0;have hfz169_1:=blk_frozen BK211.out 1))
        refine bodyPost_ret (results_cell_row rfl _ _ gb211 25 #[.string x213000_2,.string ((⟨#[50]⟩:ByteArray) ++ x213001_2)] (0,0) _ rfl (by (with_reducible repeat (first|refine yN ?_ _|refine yD ?_|refine yA ?_ _));refine blk_put (cs:=#[.string x213000_2,.string ⟨#[]⟩]) ?_ 1 _ rfl;(with_reducible repeat (first|refine yN ?_ _|refine yD ?_|refine yA ?_ _));refine blk_put (cs:=#[.string ⟨#[]⟩,.string ⟨#[]⟩]) ?_ 0 _ rfl;(with_reducible repeat (first|refine yN ?_ _|refine yD ?_|refine yA ?_ _));refine blk_far ?_ NB211_212.out _;(with_reducible repeat (first|refine yN ?_ _|refine yD ?_|refine yA ?_ _));exact BK211.out) Try.underlying25 rfl (by kernel_rfl)) rfl ?_
        exact ⟨by first|rfl|(simp [errW_none,errW_some] <;> rfl)|(simp [*,errW_none,errW_some] <;> rfl),by repeat (first|(with_reducible first|exact HI0.out|apply iA|apply iN|apply iD|apply IsS57.set_1|apply IsS57.set_2|refine IsS57.far ?_ NB0_211.out _|refine IsS57.far ?_ NB0_212.out _)|exact HI0.out),by repeat (first|(with_reducible first|exact HB.out|apply zA|apply zN|apply zD|refine zS ?_ (IsS57.ge HI0.out)|refine zS ?_ GE211.out|refine zS ?_ GE212.out)|exact HB.out),by repeat (first|(with_reducible first|exact HK.out|apply kS|apply kN|apply kD|apply kA|refine kF ?_ GW211.out _|refine kF ?_ GW212.out _)|exact HK.out)⟩
       ·rw [if_neg c163] at H
        exact absurd H (by simp)
      ·rw [if_neg c162] at H
       have c162b0:(t279 == 3) = false:=beq_eq_false_iff_ne.mpr c162
       have c162b1:(t279 != 3) = true:=bne_iff_ne.mpr c162
       simp only [Option.some.injEq,Prod.mk.injEq] at H
       obtain ⟨rfl,rfl,rfl,rfl⟩:=H
       go_wp2_with (first|((with_reducible refine gate_callee (f:=18) rfl ?_);refine goesL_ (some 85) rfl rfl Try.func18 (by kernel_rfl) rfl #[.pointer (some ⟨g,0,none⟩),.int .i64 40] rfl (by (try simp only [sM,sC,sN]);first|done|rfl|(simp only [List.length_drop,List.length_take];rfl)) ?_;(with_reducible refine (spec_l01Next.calls g s0_0 x1001_2 x1002_2 40 t279 t280 t281 w0 _ ?side1 ?side2 A138.out).mono ?_);(case side1=>repeat (first|(with_reducible first|exact HI0.out|apply iA|apply iN|apply iD|apply IsS57.set_1|apply IsS57.set_2|refine IsS57.far ?_ NB0_211.out _|refine IsS57.far ?_ NB0_212.out _)|exact HI0.out));(case side2=>repeat (first|(with_reducible first|exact HB.out|apply zA|apply zN|apply zD|refine zS ?_ (IsS57.ge HI0.out)|refine zS ?_ GE211.out|refine zS ?_ GE212.out)|exact HB.out));rintro e w170 ⟨rfl,hi,hb,hk⟩;refine ⟨_,rfl,?_⟩;replace BK211:=aM (KeepBut.blk hk (g':=gb211) (o:=.cells #[.string ⟨#[]⟩,.string ⟨#[]⟩] 25 (0,0)) BK211.out NB211_0.out (by simp));replace BK212:=aM (KeepBut.blk hk (g':=gb212) (o:=.cells #[.string x213000_2,.string x213001_2] 25 (0,0)) BK212.out NB212_0.out (by simp));replace HK:=aM (KeepBut.trans HK.out hk (.inl rfl));replace HB:=aM (hb);replace HI0:=aM (hi);(try clear hb);(try clear hb2);(try clear hk);(try clear hi);have hnb171:=NB212_211.out;have hnc171:=NB211_212.out;have hnb172:=NB212_0.out;have hnc172:=NB0_212.out;have hcz173_0:w170.cell? ⟨gb212,0,none⟩ = some (.string x213000_2):=(blk_cell BK212.out 0).trans rfl;have hcz173_1:w170.cell? ⟨gb212,1,none⟩ = some (.string x213001_2):=(blk_cell BK212.out 1).trans rfl;have hfz173_0:=blk_frozen BK212.out 0;have hfz173_1:=blk_frozen BK212.out 1;have hnb174:=NB211_0.out;have hnc174:=NB0_211.out;have hcz175_0:w170.cell? ⟨gb211,0,none⟩ = some (.string ⟨#[]⟩):=(blk_cell BK211.out 0).trans rfl;have hcz175_1:w170.cell? ⟨gb211,1,none⟩ = some (.string ⟨#[]⟩):=(blk_cell BK211.out 1).trans rfl;have hfz175_0:=blk_frozen BK211.out 0;have hfz175_1:=blk_frozen BK211.out 1))
       refine bodyPost_ret (results_cell_row rfl _ _ gb211 25 #[.string x213000_2,.string x213001_2] (0,0) _ rfl (by (with_reducible repeat (first|refine yN ?_ _|refine yD ?_|refine yA ?_ _));refine blk_put (cs:=#[.string x213000_2,.string ⟨#[]⟩]) ?_ 1 _ rfl;(with_reducible repeat (first|refine yN ?_ _|refine yD ?_|refine yA ?_ _));refine blk_put (cs:=#[.string ⟨#[]⟩,.string ⟨#[]⟩]) ?_ 0 _ rfl;(with_reducible repeat (first|refine yN ?_ _|refine yD ?_|refine yA ?_ _));exact BK211.out) Try.underlying25 rfl (by kernel_rfl)) rfl ?_
       exact ⟨by first|rfl|(simp [errW_none,errW_some] <;> rfl)|(simp [*,errW_none,errW_some] <;> rfl),by repeat (first|(with_reducible first|exact HI0.out|apply iA|apply iN|apply iD|apply IsS57.set_1|apply IsS57.set_2|refine IsS57.far ?_ NB0_211.out _|refine IsS57.far ?_ NB0_212.out _)|exact HI0.out),by repeat (first|(with_reducible first|exact HB.out|apply zA|apply zN|apply zD|refine zS ?_ (IsS57.ge HI0.out)|refine zS ?_ GE211.out|refine zS ?_ GE212.out)|exact HB.out),by repeat (first|(with_reducible first|exact HK.out|apply kS|apply kN|apply kD|apply kA|refine kF ?_ GW211.out _|refine kF ?_ GW212.out _)|exact HK.out)⟩
set_option maxHeartbeats 8000000 in
set_option maxRecDepth 100000 in
theorem spec_l02Draw.calls (k:Nat) (g:Nat) (s0_0:List Int) (s0_1:Int) (s0_2:Int) (r1:ByteArray) (r2:ByteArray) (r3:Int) (r4:Int) (w0 w:World) (hI:IsS57 w0 w g s0_0 s0_1 s0_2) (hB:Below w0.heap.size w0 w) (h:spec_l02Draw.f k s0_0 s0_1 s0_2 = some (r1,r2,r3,r4)) :
  Calls Try.prog 17 #[.pointer (some ⟨g,0,none⟩)] w fun e w'=>e = .returned (.agg #[.string r1,.string r2]) ∧ IsS57 w0 w' g s0_0 r3 r4 ∧ Below w0.heap.size w0 w' ∧ KeepBut w w' g none:=by
 have hu25:=Try.underlying25
 have hu59:=Try.underlying59
 have HI0:=aM hI
 have HK:=aM (KeepBut.refl w g none)
 have HL:=aM hB.size
 clear hI
 have HW0:=aM hB.size
 have HB:=aM hB
 clear hB
 have H:((spec_l01Next.f s0_0 s0_1 s0_2 4).bind fun bt213=>(if bt213.1 = 0 then ((spec_l02Star1.f k s0_0 bt213.2.1 bt213.2.2).bind fun bt216=>(spec_l02Draw.j2 k s0_0 bt216.2.2.1 bt216.2.2.2 bt216.1 bt216.2.1)) else (if bt213.1 = 1 then ((spec_l01Draw.f k s0_0 bt213.2.1 bt213.2.2).bind fun bt220=>((spec_l01Draw.f k s0_0 bt220.2.2.1 bt220.2.2.2).bind fun bt225=>((spec_l02Itinerary.f k bt225.1 bt225.2.1 bt220.1 bt220.2.1).bind fun bt229=>(if bt229.2.2 = true then (spec_l02Draw.j2 k s0_0 bt225.2.2.1 bt225.2.2.2 bt229.1 bt229.2.1) else ((spec_l02Star1.f k s0_0 bt225.2.2.1 bt225.2.2.2).bind fun bt233=>(spec_l02Draw.j2 k s0_0 bt233.2.2.1 bt233.2.2.2 bt233.1 bt233.2.1)))))) else (if bt213.1 = 2 then ((spec_l01Draw.f k s0_0 bt213.2.1 bt213.2.2).bind fun bt237=>((spec_l02Itinerary.f k bt237.1 bt237.2.1 bt237.1 bt237.2.1).bind fun bt242=>(if bt242.2.2 = true then (spec_l02Draw.j2 k s0_0 bt237.2.2.1 bt237.2.2.2 bt242.1 bt242.2.1) else ((spec_l02Star1.f k s0_0 bt237.2.2.1 bt237.2.2.2).bind fun bt246=>(spec_l02Draw.j2 k s0_0 bt246.2.2.1 bt246.2.2.2 bt246.1 bt246.2.1))))) else ((some (([(⟨#[48]⟩:ByteArray),(⟨#[49]⟩:ByteArray),(⟨#[42]⟩:ByteArray)]:List ByteArray):List ByteArray)).bind fun y250=>((spec_l01Next.f s0_0 bt213.2.1 bt213.2.2 3).bind fun bt253=>(if 0 ≤ bt253.1 then (if bt253.1 < (y250.length:Int) then ((spec_l01Next.f s0_0 bt253.2.1 bt253.2.2 4).bind fun bt257=>(spec_l02Draw.l0 k (⟨#[]⟩:ByteArray) (rdOf ByteArray.empty y250 bt253.1) bt257.1 s0_0 bt257.2.1 bt257.2.2)) else (none)) else (none)))))))) = some (r1,r2,r3,r4):=h
 clear h
 replace H:=Option.bind_eq_some_iff.mp H
 obtain ⟨⟨t213,t214,t215⟩,A20,H⟩:=H
 replace H:(if t213 = 0 then ((spec_l02Star1.f k s0_0 t214 t215).bind fun bt216=>(spec_l02Draw.j2 k s0_0 bt216.2.2.1 bt216.2.2.2 bt216.1 bt216.2.1)) else (if t213 = 1 then ((spec_l01Draw.f k s0_0 t214 t215).bind fun bt220=>((spec_l01Draw.f k s0_0 bt220.2.2.1 bt220.2.2.2).bind fun bt225=>((spec_l02Itinerary.f k bt225.1 bt225.2.1 bt220.1 bt220.2.1).bind fun bt229=>(if bt229.2.2 = true then (spec_l02Draw.j2 k s0_0 bt225.2.2.1 bt225.2.2.2 bt229.1 bt229.2.1) else ((spec_l02Star1.f k s0_0 bt225.2.2.1 bt225.2.2.2).bind fun bt233=>(spec_l02Draw.j2 k s0_0 bt233.2.2.1 bt233.2.2.2 bt233.1 bt233.2.1)))))) else (if t213 = 2 then ((spec_l01Draw.f k s0_0 t214 t215).bind fun bt237=>((spec_l02Itinerary.f k bt237.1 bt237.2.1 bt237.1 bt237.2.1).bind fun bt242=>(if bt242.2.2 = true then (spec_l02Draw.j2 k s0_0 bt237.2.2.1 bt237.2.2.2 bt242.1 bt242.2.1) else ((spec_l02Star1.f k s0_0 bt237.2.2.1 bt237.2.2.2).bind fun bt246=>(spec_l02Draw.j2 k s0_0 bt246.2.2.1 bt246.2.2.2 bt246.1 bt246.2.1))))) else ((some (([(⟨#[48]⟩:ByteArray),(⟨#[49]⟩:ByteArray),(⟨#[42]⟩:ByteArray)]:List ByteArray):List ByteArray)).bind fun y250=>((spec_l01Next.f s0_0 t214 t215 3).bind fun bt253=>(if 0 ≤ bt253.1 then (if bt253.1 < (y250.length:Int) then ((spec_l01Next.f s0_0 bt253.2.1 bt253.2.2 4).bind fun bt257=>(spec_l02Draw.l0 k (⟨#[]⟩:ByteArray) (rdOf ByteArray.empty y250 bt253.1) bt257.1 s0_0 bt257.2.1 bt257.2.2)) else (none)) else (none))))))) = some (r1,r2,r3,r4):=H
 have A2:=aM A20
 clear A20
 have HC3:=aM H
 clear H
 exact spec_l02Draw.way0 k g s0_0 s0_1 s0_2 r1 r2 r3 r4 w0 w HI0 HK HL HW0 HB t213 t214 t215 A2 HC3
def spec_DrawRhoOf.f (k:Nat) (l0:List Int):Option (ByteArray × ByteArray × Int):=(spec_l01From.f k l0).bind fun bt283=>((spec_l02Draw.f k bt283.1 bt283.2.1 bt283.2.2).bind fun bt287=>((spec_l01Next.f bt283.1 bt287.2.2.1 bt287.2.2.2 12).bind fun bt291=>((spec_l01Next.f bt283.1 bt291.2.1 bt291.2.2 16).bind fun bt294=>((spec_l01Next.f bt283.1 bt294.2.1 bt294.2.2 24).bind fun bt297=>(some (bt287.1,bt287.2.1,wrap64 ((wrap64 ((wrap64 (1 + bt291.1)) - (wrap64 (Int.tdiv bt294.1 15)))) + (wrap64 ((wrap64 (Int.tdiv bt297.1 23)) * 1000)))))))))
theorem spec_DrawRhoOf.mono:∀ a0 k,LeO (spec_DrawRhoOf.f k a0) (spec_DrawRhoOf.f (k + 1) a0):=by
 intro a0 k
 unfold spec_DrawRhoOf.f
 repeat' first
   | (with_reducible exact spec_l01From.mono _ _)
   | (with_reducible exact spec_l02Draw.mono _ _ _ _)
   | (with_reducible exact LeO.refl _)
   | (with_reducible exact LeO.none _)
   | (with_reducible refine LeO.ite ?_ ?_)
   | (with_reducible refine LeO.bind ?_ (fun _=>?_))
   | exact spec_l01From.mono _ _
   | exact spec_l02Draw.mono _ _ _ _
   | exact LeO.none _
   | refine LeO.ite ?_ ?_
   | refine LeO.bind ?_ (fun _=>?_)
set_option maxHeartbeats 8000000 in
set_option maxRecDepth 100000 in
theorem spec_DrawRhoOf.calls (k:Nat) (A0:Option Addr) (c0:Nat) (l0:List Int) (r1:ByteArray) (r2:ByteArray) (r3:Int) (w:World) (hr0:Kd.C (Kd.int .u8) w A0 l0.length l0) (hc0:l0.length ≤ c0) (h:spec_DrawRhoOf.f k l0 = some (r1,r2,r3)) :
  Calls Try.prog 5 #[.slice A0 l0.length c0] w fun e w'=>e = .returned (.tuple #[.agg #[.string r1,.string r2],.int .i64 r3]) ∧ Below w.heap.size w w':=by
 have hu25:=Try.underlying25
 have HR0:=aM hr0
 have HC0:=aM hc0
 clear hr0 hc0
 have HB:=aM (Below.refl w.heap.size w)
 have H:((spec_l01From.f k l0).bind fun bt283=>((spec_l02Draw.f k bt283.1 bt283.2.1 bt283.2.2).bind fun bt287=>((spec_l01Next.f bt283.1 bt287.2.2.1 bt287.2.2.2 12).bind fun bt291=>((spec_l01Next.f bt283.1 bt291.2.1 bt291.2.2 16).bind fun bt294=>((spec_l01Next.f bt283.1 bt294.2.1 bt294.2.2 24).bind fun bt297=>(some (bt287.1,bt287.2.1,wrap64 ((wrap64 ((wrap64 (1 + bt291.1)) - (wrap64 (Int.tdiv bt294.1 15)))) + (wrap64 ((wrap64 (Int.tdiv bt297.1 23)) * 1000)))))))))) = some (r1,r2,r3):=h
 clear h
 replace H:=Option.bind_eq_some_iff.mp H
 obtain ⟨⟨t283,t284,t285⟩,A20,H⟩:=H
 replace H:((spec_l02Draw.f k t283 t284 t285).bind fun bt287=>((spec_l01Next.f t283 bt287.2.2.1 bt287.2.2.2 12).bind fun bt291=>((spec_l01Next.f t283 bt291.2.1 bt291.2.2 16).bind fun bt294=>((spec_l01Next.f t283 bt294.2.1 bt294.2.2 24).bind fun bt297=>(some (bt287.1,bt287.2.1,wrap64 ((wrap64 ((wrap64 (1 + bt291.1)) - (wrap64 (Int.tdiv bt294.1 15)))) + (wrap64 ((wrap64 (Int.tdiv bt297.1 23)) * 1000))))))))) = some (r1,r2,r3):=H
 have A2:=aM A20
 clear A20
 replace H:=Option.bind_eq_some_iff.mp H
 obtain ⟨⟨t287,t288,t289,t290⟩,A30,H⟩:=H
 replace H:((spec_l01Next.f t283 t289 t290 12).bind fun bt291=>((spec_l01Next.f t283 bt291.2.1 bt291.2.2 16).bind fun bt294=>((spec_l01Next.f t283 bt294.2.1 bt294.2.2 24).bind fun bt297=>(some (t287,t288,wrap64 ((wrap64 ((wrap64 (1 + bt291.1)) - (wrap64 (Int.tdiv bt294.1 15)))) + (wrap64 ((wrap64 (Int.tdiv bt297.1 23)) * 1000)))))))) = some (r1,r2,r3):=H
 have A3:=aM A30
 clear A30
 replace H:=Option.bind_eq_some_iff.mp H
 obtain ⟨⟨t291,t292,t293⟩,A40,H⟩:=H
 replace H:((spec_l01Next.f t283 t292 t293 16).bind fun bt294=>((spec_l01Next.f t283 bt294.2.1 bt294.2.2 24).bind fun bt297=>(some (t287,t288,wrap64 ((wrap64 ((wrap64 (1 + t291)) - (wrap64 (Int.tdiv bt294.1 15)))) + (wrap64 ((wrap64 (Int.tdiv bt297.1 23)) * 1000))))))) = some (r1,r2,r3):=H
 have A4:=aM A40
 clear A40
 replace H:=Option.bind_eq_some_iff.mp H
 obtain ⟨⟨t294,t295,t296⟩,A50,H⟩:=H
 replace H:((spec_l01Next.f t283 t295 t296 24).bind fun bt297=>(some (t287,t288,wrap64 ((wrap64 ((wrap64 (1 + t291)) - (wrap64 (Int.tdiv t294 15)))) + (wrap64 ((wrap64 (Int.tdiv bt297.1 23)) * 1000)))))) = some (r1,r2,r3):=H
 have A5:=aM A50
 clear A50
 replace H:=Option.bind_eq_some_iff.mp H
 obtain ⟨⟨t297,t298,t299⟩,A60,H⟩:=H
 replace H:(some (t287,t288,wrap64 ((wrap64 ((wrap64 (1 + t291)) - (wrap64 (Int.tdiv t294 15)))) + (wrap64 ((wrap64 (Int.tdiv t297 23)) * 1000))))) = some (r1,r2,r3):=H
 have A6:=aM A60
 clear A60
 simp only [Option.some.injEq,Prod.mk.injEq] at H
 obtain ⟨rfl,rfl,rfl⟩:=H
 go_enter Try.func5,Try.ntmps5
 go_wp2_with (first|((with_reducible refine gate_dst (N:=2) rfl ?_);refine box_event ?hg (N:=2) ?hd (cs:=#[.string ⟨#[]⟩,.string ⟨#[]⟩]) (t:=25) ?hr ?_;(case hd=>rfl);(case hg=>rfl);(case hr=>first|(go_simp;done)|(go_simp;rfl));intro gb282 hg w7 hbox hb;have n0_:=aM (below_step (by repeat (first|(with_reducible first|exact HB.out|apply zA|apply zN|apply zD)|exact HB.out)) hb);have n1_:=aM (hbox);have n2_:=aM ((by rw [hg];exact (below_size (by repeat (first|(with_reducible first|exact HB.out|apply zA|apply zN|apply zD)|exact HB.out))):w.heap.size ≤ gb282));have n3_:=aM ((by rw [hg];exact (below_size (by repeat (first|(with_reducible first|exact HB.out|apply zA|apply zN|apply zD)|exact HB.out))):w.heap.size ≤ gb282));clear HB;have HB:=n0_;have BK282:=n1_;have GW282:=n2_;have GE282:=n3_;clear n0_ n1_ n2_ n3_;clear hb hbox hg)|((with_reducible refine gate_callee (f:=16) rfl ?_);refine goesL_ (some 6) rfl rfl Try.func16 (by kernel_rfl) rfl #[.slice A0 l0.length c0] rfl (by (try simp only [sM,sC,sN]);first|done|rfl|(simp only [List.length_drop,List.length_take];rfl)) ?_;(with_reducible refine (spec_l01From.calls k _ _ l0 t283 t284 t285 w _ ?side1 ?side2 ?side3 A2.out).mono ?_);(case side1=>repeat (first|(with_reducible first|exact HB.out|apply zA|apply zN|apply zD|refine zS ?_ GE282.out)|exact HB.out));(case side2=>exact HR0.out);(case side3=>exact HC0.out);rintro e w8 ⟨g286,rfl,hi,hb,hb2⟩;refine ⟨_,rfl,?_⟩;have n0_:=aM (blk_below (g:=gb282) (o:=.cells #[.string ⟨#[]⟩,.string ⟨#[]⟩] 25 (0,0)) (by (with_reducible repeat (first|apply yN|apply yD|apply yA));exact BK282.out) hb2);have n1_:=aM (hb);have n2_:=aM (hi);have n3_:=aM (IsS57.ne_blk hi (blk_below (g:=gb282) (o:=.cells #[.string ⟨#[]⟩,.string ⟨#[]⟩] 25 (0,0)) (by (with_reducible repeat (first|apply yN|apply yD|apply yA));exact BK282.out) hb2) (by decide));have n4_:=aM (Ne.symm (IsS57.ne_blk hi (blk_below (g:=gb282) (o:=.cells #[.string ⟨#[]⟩,.string ⟨#[]⟩] 25 (0,0)) (by (with_reducible repeat (first|apply yN|apply yD|apply yA));exact BK282.out) hb2) (by decide)));clear BK282;clear HB;have BK282:=n0_;have HB:=n1_;have HI286:=n2_;have NB286_282:=n3_;have NB282_286:=n4_;clear n0_ n1_ n2_ n3_ n4_;(try clear hb);(try clear hb2);(try clear hk);(try clear hi))|((with_reducible refine gate_callee (f:=17) rfl ?_);refine goesL_ (some 8) rfl rfl Try.func17 (by kernel_rfl) rfl #[.pointer (some ⟨g286,0,none⟩)] rfl (by (try simp only [sM,sC,sN]);first|done|rfl|(simp only [List.length_drop,List.length_take];rfl)) ?_;(with_reducible refine (spec_l02Draw.calls k g286 t283 t284 t285 t287 t288 t289 t290 w _ ?side1 ?side2 A3.out).mono ?_);(case side1=>repeat (first|(with_reducible first|exact HI286.out|apply IsS57.alloc|apply IsS57.drewN|apply IsS57.drew|apply IsS57.set_1|apply IsS57.set_2|refine IsS57.far ?_ NB286_282.out _)|exact HI286.out));(case side2=>repeat (first|(with_reducible first|exact HB.out|apply zA|apply zN|apply zD|refine zS ?_ (IsS57.ge HI286.out)|refine zS ?_ GE282.out)|exact HB.out));rintro e w9 ⟨rfl,hi,hb,hk⟩;refine ⟨_,rfl,?_⟩;replace BK282:=aM (KeepBut.blk hk (g':=gb282) (o:=.cells #[.string ⟨#[]⟩,.string ⟨#[]⟩] 25 (0,0)) (by (with_reducible repeat (first|apply yN|apply yD|apply yA));exact BK282.out) NB282_286.out (by simp));replace HB:=aM (hb);replace HI286:=aM (hi);(try clear hb);(try clear hb2);(try clear hk);(try clear hi))|((with_reducible refine gate_callee (f:=18) rfl ?_);refine goesL_ (some 10) rfl rfl Try.func18 (by kernel_rfl) rfl #[.pointer (some ⟨g286,0,none⟩),.int .i64 12] rfl (by (try simp only [sM,sC,sN]);first|done|rfl|(simp only [List.length_drop,List.length_take];rfl)) ?_;(with_reducible refine (spec_l01Next.calls g286 t283 t289 t290 12 t291 t292 t293 w _ ?side1 ?side2 A4.out).mono ?_);(case side1=>repeat (first|(with_reducible first|exact HI286.out|apply IsS57.alloc|apply IsS57.drewN|apply IsS57.drew|apply IsS57.set_1|apply IsS57.set_2|refine IsS57.far ?_ NB286_282.out _)|exact HI286.out));(case side2=>repeat (first|(with_reducible first|exact HB.out|apply zA|apply zN|apply zD|refine zS ?_ (IsS57.ge HI286.out)|refine zS ?_ GE282.out)|exact HB.out));rintro e w10 ⟨rfl,hi,hb,hk⟩;refine ⟨_,rfl,?_⟩;replace BK282:=aM (KeepBut.blk hk (g':=gb282) (o:=.cells #[.string ⟨#[]⟩,.string ⟨#[]⟩] 25 (0,0)) (by (with_reducible repeat (first|apply yN|apply yD|apply yA));exact BK282.out) NB282_286.out (by simp));replace HB:=aM (hb);replace HI286:=aM (hi);(try clear hb);(try clear hb2);(try clear hk);(try clear hi))|((with_reducible refine gate_callee (f:=18) rfl ?_);refine goesL_ (some 13) rfl rfl Try.func18 (by kernel_rfl) rfl #[.pointer (some ⟨g286,0,none⟩),.int .i64 16] rfl (by (try simp only [sM,sC,sN]);first|done|rfl|(simp only [List.length_drop,List.length_take];rfl)) ?_;(with_reducible refine (spec_l01Next.calls g286 t283 t292 t293 16 t294 t295 t296 w _ ?side1 ?side2 A5.out).mono ?_);(case side1=>repeat (first|(with_reducible first|exact HI286.out|apply IsS57.alloc|apply IsS57.drewN|apply IsS57.drew|apply IsS57.set_1|apply IsS57.set_2|refine IsS57.far ?_ NB286_282.out _)|exact HI286.out));(case side2=>repeat (first|(with_reducible first|exact HB.out|apply zA|apply zN|apply zD|refine zS ?_ (IsS57.ge HI286.out)|refine zS ?_ GE282.out)|exact HB.out));rintro e w11 ⟨rfl,hi,hb,hk⟩;refine ⟨_,rfl,?_⟩;replace BK282:=aM (KeepBut.blk hk (g':=gb282) (o:=.cells #[.string ⟨#[]⟩,.string ⟨#[]⟩] 25 (0,0)) (by (with_reducible repeat (first|apply yN|apply yD|apply yA));exact BK282.out) NB282_286.out (by simp));replace HB:=aM (hb);replace HI286:=aM (hi);(try clear hb);(try clear hb2);(try clear hk);(try clear hi))|((with_reducible refine gate_callee (f:=18) rfl ?_);refine goesL_ (some 17) rfl rfl Try.func18 (by kernel_rfl) rfl #[.pointer (some ⟨g286,0,none⟩),.int .i64 24] rfl (by (try simp only [sM,sC,sN]);first|done|rfl|(simp only [List.length_drop,List.length_take];rfl)) ?_;(with_reducible refine (spec_l01Next.calls g286 t283 t295 t296 24 t297 t298 t299 w _ ?side1 ?side2 A6.out).mono ?_);(case side1=>repeat (first|(with_reducible first|exact HI286.out|apply IsS57.alloc|apply IsS57.drewN|apply IsS57.drew|apply IsS57.set_1|apply IsS57.set_2|refine IsS57.far ?_ NB286_282.out _)|exact HI286.out));(case side2=>repeat (first|(with_reducible first|exact HB.out|apply zA|apply zN|apply zD|refine zS ?_ (IsS57.ge HI286.out)|refine zS ?_ GE282.out)|exact HB.out));rintro e w12 ⟨rfl,hi,hb,hk⟩;refine ⟨_,rfl,?_⟩;replace BK282:=aM (KeepBut.blk hk (g':=gb282) (o:=.cells #[.string ⟨#[]⟩,.string ⟨#[]⟩] 25 (0,0)) (by (with_reducible repeat (first|apply yN|apply yD|apply yA));exact BK282.out) NB282_286.out (by simp));replace HB:=aM (hb);replace HI286:=aM (hi);(try clear hb);(try clear hb2);(try clear hk);(try clear hi);have hnb13:=NB282_286.out;have hnc13:=NB286_282.out;have hcz14_0:w12.cell? ⟨gb282,0,none⟩ = some (.string ⟨#[]⟩):=(blk_cell BK282.out 0).trans rfl;have hcz14_1:w12.cell? ⟨gb282,1,none⟩ = some (.string ⟨#[]⟩):=(blk_cell BK282.out 1).trans rfl;have hfz14_0:=blk_frozen BK282.out 0;have hfz14_1:=blk_frozen BK282.out 1))
 refine bodyPost_ret (results_ct rfl _ _ gb282 25 #[.string t287,.string t288] (0,0) _ rfl (by (with_reducible repeat (first|apply yN|apply yD|apply yA));refine blk_put (cs:=#[.string t287,.string ⟨#[]⟩]) ?_ 1 _ rfl;(with_reducible repeat (first|apply yN|apply yD|apply yA));refine blk_put (cs:=#[.string ⟨#[]⟩,.string ⟨#[]⟩]) ?_ 0 _ rfl;(with_reducible repeat (first|apply yN|apply yD|apply yA));exact BK282.out) Try.underlying25 rfl (by kernel_rfl)) rfl ?_
 exact ⟨by first|rfl|(simp [errW_none,errW_some] <;> rfl)|(simp [*,errW_none,errW_some] <;> rfl),by repeat (first|(with_reducible first|exact HB.out|apply zA|apply zN|apply zD|refine zS ?_ (IsS57.ge HI286.out)|refine zS ?_ GE282.out)|exact HB.out)⟩
set_option maxHeartbeats 1000000 in
theorem indexFunc_byte.calls (g:Nat) (lb:Array Value) (eg:∀ args w,(callFunc g args).run Try.prog w = .ok (.enter g args) w) (p:Int → Option Bool) (A0:Option Addr) (c0:Nat) (l0:List Int) (r:Int) (w:World)
  (hr0:Kd.C (Kd.int .u8) w A0 l0.length l0) (hc0:l0.length ≤ c0)
  (hp:∀ W x b,Below w.heap.size w W → p x = some b → Calls Try.prog g (#[.int .u8 x] ++ lb) W fun e w'=>e = .returned (.bool b) ∧ Below W.heap.size W w')
  (h:idxGo p 0 l0 = some r) :
  Calls Try.prog 75 #[.slice A0 l0.length c0,.func (.func g) #[] lb] w fun e w'=>e = .returned (.int .i64 r) ∧ Below w.heap.size w w':=by
 have hm:=Kd.C_max hr0
 have HR:=aM hr0
 have H0:=aM h
 have HP:=aM hp
 clear hr0 h hp
 go_enter Try.func75,Try.ntmps75
 go_wp2
 go_loopg [8] l0.length (fun gg i wr=>∃ k:Nat,k ≤ l0.length ∧ l0.length - k ≤ gg ∧ i = .int .i64 k ∧ Aside0 (idxGo p k (l0.drop k) = some r) ∧ Aside0 (Below w.heap.size w wr))
 case atStart=>exact ⟨0,Nat.zero_le _,by omega,rfl,aM (by simpa using H0.out),aM (Below.refl _ _)⟩
 case round =>
  obtain ⟨k,hk,hg,rfl,HJ,HB⟩:=hrel
  clear H0
  by_cases hlt:k < l0.length
  ·have hlti:(k:Int) < (l0.length:Int):=by omega
   obtain ⟨b,hb,hstep⟩:=idxGo_drop p l0 k k r hlt HJ.out
   obtain ⟨ad,e,e0⟩:=Kd.at_int (Kd.C_below HR.out HB.out) (k:Int) (by omega) hlti
   have hx:rd l0 (k:Int) = l0[k]:=by simp [rd,hlt]
   rw [hx] at e0
   simp only [Int.toNat_natCast] at e0
   generalize l0[k] = x at hb e0
   have hcall:=HP.out wr x b HB.out hb
   subst e
   rcases hstep with ⟨rfl,rfl⟩|⟨rfl,hj⟩
   ·have HC:=aM hcall
    have HB1:=HB.out
    clear hcall hb hx HP HJ
    go_wp2_with (go_at_fn g;refine HC.out.mono ?_;rintro e w' ⟨rfl,hb'⟩)
    go_ret
    exact ⟨rfl,HB1.trans (hb'.mono HB1.size)⟩
   ·have HC:=aM hcall
    have HJ2:=aM hj
    clear hcall hb hx hj
    go_wp2_with (go_at_fn g;refine HC.out.mono ?_;rintro e w' ⟨rfl,hb'⟩)
    go_roundg (l0.length - (k + 1))
    case measure=>omega
    case rel=>exact ⟨k + 1,by omega,by omega,by go_num,⟨by simpa using HJ2.out⟩,⟨HB.out.trans (hb'.mono HB.out.size)⟩⟩
  ·have hlti:¬ (k:Int) < (l0.length:Int):=by omega
   have hr:r = -1:=idxGo_end p l0 k k r (by omega) HJ.out
   have HR1:=aM hr
   have HB1:=HB.out
   clear hr HP HJ
   go_wp2
   go_ret
   exact ⟨by rw [HR1.out];rfl,HB1⟩
set_option maxHeartbeats 1000000 in
theorem containsFunc_byte.calls (g:Nat) (lb:Array Value) (eg:∀ args w,(callFunc g args).run Try.prog w = .ok (.enter g args) w) (p:Int → Option Bool) (A0:Option Addr) (c0:Nat) (l0:List Int) (r:Int) (w:World)
  (hr0:Kd.C (Kd.int .u8) w A0 l0.length l0) (hc0:l0.length ≤ c0)
  (hp:∀ W x b,Below w.heap.size w W → p x = some b → Calls Try.prog g (#[.int .u8 x] ++ lb) W fun e w'=>e = .returned (.bool b) ∧ Below W.heap.size W w')
  (h:idxGo p 0 l0 = some r) :
  Calls Try.prog 71 #[.slice A0 l0.length c0,.func (.func g) #[] lb] w fun e w'=>e = .returned (.bool (decide (0 ≤ r))) ∧ Below w.heap.size w w':=by
 have hcon:=indexFunc_byte.calls g lb eg p A0 c0 l0 r w hr0 hc0 hp h
 have HC:=aM hcon
 clear hcon hp h hr0
 go_enter Try.func71,Try.ntmps71
 go_wp2_with (go_at_call 75;refine HC.out.mono ?_;rintro e w' ⟨rfl,hb'⟩)
 go_ret
 exact ⟨rfl,hb'⟩
set_option maxHeartbeats 1000000 in
theorem notIs_byte.calls (g:Nat) (eg:∀ args w,(callFunc g args).run Try.prog w = .ok (.enter g args) w) (B:Nat) (w:World) (hcell:w.cell? ⟨B,0,none⟩ = some (.func (.func g) #[] #[])) (hB:B < w.heap.size) (x:Int) (b:Bool)
  (hp:∀ W,Below w.heap.size w W → Calls Try.prog g #[.int .u8 x] W fun e w'=>e = .returned (.bool b) ∧ Below W.heap.size W w') :
  Calls Try.prog 72 #[.int .u8 x,.pointer (some ⟨B,0,none⟩)] w fun e w'=>e = .returned (.bool (!b)) ∧ Below w.heap.size w w':=by
 have HP:=aM hp
 have hu:=Try.underlying5
 clear hp
 go_enter Try.func72,Try.ntmps72
 go_wp2_with (go_at_fn g;refine (HP.out _ (Below.refl _ _)).mono ?_;rintro e w' ⟨rfl,hb'⟩)
 go_ret
 exact ⟨rfl,hb'⟩
set_option maxHeartbeats 1000000 in
theorem areAll_byte.calls (g:Nat) (eg:∀ args w,(callFunc g args).run Try.prog w = .ok (.enter g args) w) (p:Int → Option Bool) (A0:Option Addr) (c0:Nat) (l0:List Int) (r:Bool) (w:World)
  (hr0:Kd.C (Kd.int .u8) w A0 l0.length l0) (hc0:l0.length ≤ c0)
  (hp:∀ W x b,Below w.heap.size w W → p x = some b → Calls Try.prog g #[.int .u8 x] W fun e w'=>e = .returned (.bool b) ∧ Below W.heap.size W w')
  (h:allM p l0 = some r) :
  Calls Try.prog 62 #[.slice A0 l0.length c0,.func (.func g) #[] #[]] w fun e w'=>e = .returned (.bool r) ∧ Below w.heap.size w w':=by
 obtain ⟨i,h1,h2⟩:=allM_idx p l0 0 r (by omega) h
 have hw1:Below w.heap.size w (w.alloc (.cells #[.func (.func g) #[] #[]] 96)):=(Below.refl _ w).alloc (Nat.le_refl _) _
 have hcon:=containsFunc_byte.calls 72 #[.pointer (some ⟨w.heap.size,0,none⟩)] (enters_of Try.func72 (by kernel_rfl) rfl)
  (fun x=>(p x).map (fun b=>!b)) A0 c0 l0 i (w.alloc (.cells #[.func (.func g) #[] #[]] 96)) (Kd.C_below hr0 hw1) hc0
  (fun W x b hW hx=>by
   obtain ⟨q,hq,rfl⟩:=Option.map_eq_some_iff.1 hx
   have hcell:W.cell? ⟨w.heap.size,0,none⟩ = some (.func (.func g) #[] #[]):=(hW.cell (p:=⟨w.heap.size,0,none⟩) (by simp)).trans (by simp)
   exact notIs_byte.calls g eg w.heap.size W hcell (by have:=hW.size;simp at this;omega) x q (fun W' hW'=>hp W' x q (hw1.trans ((hW.mono (by simp)).trans (hW'.mono (by have:=hW.size;simp at this;omega)))) hq)) h1
 have HC:=aM hcon
 have H2:=aM h2
 clear hcon hp h hr0 h1 h2
 go_enter Try.func62,Try.ntmps62
 go_wp2_with (go_at_call 71;refine HC.out.mono ?_;rintro e w' ⟨rfl,hb'⟩)
 go_ret
 exact ⟨by rw [H2.out];simp,hw1.trans (hb'.mono (by simp))⟩
def isLetterN (x:Int):Bool:=decide (x = 48) || (decide (x = 49) || decide (x = 42))
theorem allM_some {α:Type} (q:α → Bool):∀ l:List α,allM (fun x=>some (q x)) l = some (l.all q)
 | []=>rfl
 | x :: xs=>by
  unfold allM
  simp only [Option.bind_some,List.all_cons]
  cases h:q x
  ·simp
  ·simpa using allM_some q xs
set_option maxHeartbeats 1000000 in
theorem isLetterN.calls (x:Int) (w:World) :
  Calls Try.prog 63 #[.int .u8 x] w fun e w'=>e = .returned (.bool (isLetterN x)) ∧ Below w.heap.size w w':=by
 go_enter Try.func63,Try.ntmps63
 go_wp2
 all_goals (go_ret;refine ⟨?_,Below.refl _ _⟩;unfold isLetterN;first|(simp_all;done)|(simp_all;rw [Bool.eq_iff_iff];simp;omega))
def impl_areLetters.f (a0:ByteArray):Option Bool:=if a0.size ≤ 9223372036854775807 then some ((bytesOf a0).all isLetterN) else none
set_option maxHeartbeats 1000000 in
theorem impl_areLetters.calls (a0:ByteArray) (r:Bool) (w:World) (h:impl_areLetters.f a0 = some r) :
  Calls Try.prog 49 #[.string a0] w fun e w'=>e = .returned (.bool r) ∧ Below w.heap.size w w':=by
 unfold impl_areLetters.f at h
 by_cases hs:a0.size ≤ 9223372036854775807
 ·rw [if_pos hs] at h
  have hcv:=print_bytes (P:=Try.prog) 9 22 5 Try.underlying9 Try.underlying22 Try.underlying5 a0 w
  have hrd:Kd.C (Kd.int .u8) (Lib.bytesWorld w 5 a0) (some ⟨w.heap.size,0,none⟩) (bytesOf a0).length (bytesOf a0):=by
   rw [bytesOf_length]
   exact Kd.C_of_reads (enc:=Value.int .u8) (d:=(0:Int)) (h1:=fun _=>rfl) (bytes_reads w 5 a0 hs)
  have hb:=bytes_below (Below.refl w.heap.size w) (Nat.le_refl _) 5 a0
  have hcap:(bytesOf a0).length ≤ grownCap w a0.size 0 5:=by rw [bytesOf_length];exact grownCap_ge w a0.size 0 5
  have hall:=areAll_byte.calls 63 (enters_of Try.func63 (by kernel_rfl) rfl) (fun x=>some (isLetterN x)) (some ⟨w.heap.size,0,none⟩) (grownCap w a0.size 0 5) (bytesOf a0) r (Lib.bytesWorld w 5 a0) hrd hcap
   (fun W x b _ hx=>by
    obtain rfl:=Option.some.inj hx
    exact isLetterN.calls x W) (by rw [allM_some];exact h)
  rw [bytesOf_length] at hall
  have HC:=aM hall
  have HB:=aM hb
  clear hall hb hrd h hcap
  generalize Lib.bytesWorld w 5 a0 = W1 at hcv HC HB
  generalize grownCap w a0.size 0 5 = cap at hcv HC
  go_enter Try.func49,Try.ntmps49
  go_wp2_with (go_at_call 62;refine HC.out.mono ?_;rintro e w' ⟨rfl,hb'⟩)
  go_ret
  exact ⟨rfl,HB.out.trans (hb'.mono HB.out.size)⟩
 ·rw [if_neg hs] at h
  cases h
def impl_areGiven.f (a0:ByteArray) (a1:ByteArray):Option (Bool):=if a1.toList = ([]:List UInt8) then (some false) else (some (decide ((wrap64 ((a0.size:Int) + (a1.size:Int))) ≤ 64)))
set_option maxHeartbeats 8000000 in
set_option maxRecDepth 100000 in
theorem impl_areGiven.calls (a0:ByteArray) (a1:ByteArray) (r:Bool) (w:World) (h:impl_areGiven.f a0 a1 = some r) :
  Calls Try.prog 50 #[.string a0,.string a1] w fun e w'=>e = .returned (.bool r) ∧ Drawn0 w w':=by
 have H:(if a1.toList = ([]:List UInt8) then (some false) else (some (decide ((wrap64 ((a0.size:Int) + (a1.size:Int))) ≤ 64)))) = some r:=h
 clear h
 by_cases c3:a1.toList = ([]:List UInt8)
 ·rw [if_pos c3] at H
  have c3b0:(a1.toList == ([]:List UInt8)) = true:=beq_iff_eq.mpr c3
  have c3b1:(a1.toList != ([]:List UInt8)) = false:=bne_eq_false_iff_eq.mpr c3
  clear c3
  obtain rfl:=Option.some.inj H
  go_enter Try.func50,Try.ntmps50
  go_wp2
  go_ret
  exact ⟨by first|rfl|(simp;done)|(simp [*];done),by repeat (first|exact Drawn0.refl _|apply Drawn0.step)⟩
 ·rw [if_neg c3] at H
  have c3b0:(a1.toList == ([]:List UInt8)) = false:=beq_eq_false_iff_ne.mpr c3
  have c3b1:(a1.toList != ([]:List UInt8)) = true:=bne_iff_ne.mpr c3
  obtain rfl:=Option.some.inj H
  go_enter Try.func50,Try.ntmps50
  go_wp2
  go_ret
  exact ⟨by first|rfl|(simp;done)|(simp [*];done),by repeat (first|exact Drawn0.refl _|apply Drawn0.step)⟩
def strings_Repeat.f (a0:ByteArray) (a1:Int):Option ByteArray:=if 0 ≤ a1 ∧ a1 ≤ 9223372036854775807 ∧ a0.size * a1.toNat ≤ 8192 then some (Go.Proofs.Ytccinmopfchjlaa.Rep.val a0 a1) else none
theorem strings_Repeat.calls (a0:ByteArray) (a1:Int) (r:ByteArray) (w:World) (h:strings_Repeat.f a0 a1 = some r) :
  Calls Try.prog 42 #[.string a0,.int .i64 a1] w fun e w'=>e = .returned (.string r) ∧ Below w.heap.size w w':=by
 unfold strings_Repeat.f at h
 split at h
 ·rename_i hc
  obtain rfl:=Option.some.inj h
  exact Go.Proofs.Ytccinmopfchjlaa.Rep.calls a0 a1 w hc.1 hc.2.1 hc.2.2
 ·cases h
def impl_root.l0:Nat → ByteArray → Int → Option (ByteArray)
 | 0,_,_=>none
 | k + 1,x0,x3=>if x3 = 0 then (none) else (if ((x0.size:Int) % x3) = 0 then (if 0 ≤ x3 then (if x3 ≤ (x0.size:Int) then ((strings_Repeat.f (x0.extract 0 (x3:Int).toNat) (wrap64 ((x0.size:Int) / x3))).bind fun t303=>(if t303.toList = x0.toList then (some (x0.extract 0 (x3:Int).toNat)) else (impl_root.l0 k x0 (wrap64 (x3 + 1))))) else (none)) else (none)) else (impl_root.l0 k x0 (wrap64 (x3 + 1))))
def impl_root.f (k:Nat) (a0:ByteArray):Option (ByteArray):=impl_root.l0 k a0 1
theorem impl_root.mono_l:∀ k,(∀ y0 y1,LeO (impl_root.l0 k y0 y1) (impl_root.l0 (k + 1) y0 y1))
 | 0=>fun _ _ r h=>by simp [impl_root.l0] at h
 | k + 1=>by
  have ih0:=impl_root.mono_l k
  ·intro y0 y1
   unfold impl_root.l0
   repeat' first
   | (with_reducible exact ih0 _ _)
   | (with_reducible exact LeO.refl _)
   | (with_reducible exact LeO.none _)
   | (with_reducible refine LeO.ite ?_ ?_)
   | (with_reducible refine LeO.bind ?_ (fun _=>?_))
   | exact ih0 _ _
   | exact LeO.none _
   | refine LeO.ite ?_ ?_
   | refine LeO.bind ?_ (fun _=>?_)
theorem impl_root.mono:∀ a0 k,LeO (impl_root.f k a0) (impl_root.f (k + 1) a0):=by
 intro a0 k
 have ih0:=impl_root.mono_l k
 unfold impl_root.f
 repeat' first
   | (with_reducible exact ih0 _ _)
   | (with_reducible exact LeO.refl _)
   | (with_reducible exact LeO.none _)
   | (with_reducible refine LeO.ite ?_ ?_)
   | (with_reducible refine LeO.bind ?_ (fun _=>?_))
   | exact ih0 _ _
   | exact LeO.none _
   | refine LeO.ite ?_ ?_
   | refine LeO.bind ?_ (fun _=>?_)
def impl_root.T2:Bool × List (List Nat × List Nat):=(true,[([],[]),([0],[0]),([],[]),([1,2],[1,2]),([3],[3]),([4],[4]),([5],[5]),([5],[5]),([6,7,5],[5,6,7]),([5],[5]),([9,5],[5,9]),([5],[5]),([10,11,5],[5,10,11]),([8,12,5,5],[5,8,12]),([5],[5]),([13,14,5],[5,13,14]),([5,15],[5,15])])
def impl_root.B2:List Nat:=[0,1,0,7,15,31,63,63,255,63,575,63,3647,8191,63,32767,65535]
theorem impl_root.tab2:rtab .any (opsOf Try.f64 2) = impl_root.T2:=by kernel_rfl
theorem impl_root.bits2:waitsOk impl_root.T2.2 impl_root.B2 = true:=by kernel_rfl
set_option maxHeartbeats 8000000 in
set_option maxRecDepth 100000 in
theorem impl_root.calls (k:Nat) (a0:ByteArray) (r:ByteArray) (w:World) (h:impl_root.f k a0 = some r) :
  Calls Try.prog 64 #[.string a0] w fun e w'=>e = .returned (.string r) ∧ Below w.heap.size w w':=by
 have HB:=aM (Below.refl w.heap.size w)
 have H:(impl_root.l0 k a0 1) = some r:=h
 clear h
 have H':=aM H
 clear H
 go_enter Try.func64,Try.ntmps64
 go_wp2
 go_loopg [3] k (fun kq v3 w'=>∃ (x3_1:Int),v3 = .int .i64 x3_1 ∧ Aside0 (impl_root.l0 kq a0 x3_1 = some r) ∧ Aside0 (kq ≤ k) ∧ Aside0 (Below w.heap.size w w'))
 case atStart=>exact ⟨(1),(by first|rfl|(simp;done)|(simp [*];done)),H',⟨Nat.le_refl _⟩,⟨by repeat (first|(with_reducible first|exact HB.out|apply zA|apply zN|apply zD)|exact HB.out)⟩⟩
 case round =>
  clear H'
  obtain ⟨x3_1,rfl,HA,HK1,HB⟩:=hrel
  cases gk with
  | zero=>exact absurd HA.out (by simp [impl_root.l0])
  | succ k1 =>
   have H:=HA.out
   clear HA
   simp only [impl_root.l0] at H
   by_cases c2:x3_1 = 0
   ·rw [if_pos c2] at H
    exact absurd H (by simp)
   ·rw [if_neg c2] at H
    have c2b0:(x3_1 == 0) = false:=beq_eq_false_iff_ne.mpr c2
    have c2b1:(x3_1 != 0) = true:=bne_iff_ne.mpr c2
    have c3t:=Int.tmod_eq_emod_of_nonneg (a:=(a0.size:Int)) (b:=x3_1) (by omega)
    by_cases c3:((a0.size:Int) % x3_1) = 0
    ·rw [if_pos c3] at H
     have c3b0:(((a0.size:Int) % x3_1) == 0) = true:=beq_iff_eq.mpr c3
     have c3b1:(((a0.size:Int) % x3_1) != 0) = false:=bne_eq_false_iff_eq.mpr c3
     try (have c3u:=c3b0;rw [c3t] at c3u;have c3v:=c3b1;rw [c3t] at c3v)
     clear c3
     by_cases c4:0 ≤ x3_1
     ·rw [if_pos c4] at H
      have c4b0:=eq_true c4
      have c4b1:decide (0 ≤ x3_1) = true:=decide_eq_true c4
      clear c4
      by_cases c5:x3_1 ≤ (a0.size:Int)
      ·rw [if_pos c5] at H
       have c5b0:=eq_true c5
       have c5b1:decide (x3_1 ≤ (a0.size:Int)) = true:=decide_eq_true c5
       clear c5
       replace H:=Option.bind_eq_some_iff.mp H
       obtain ⟨t303,A60,H⟩:=H
       replace H:(if t303.toList = a0.toList then (some (a0.extract 0 (x3_1:Int).toNat)) else (impl_root.l0 k1 a0 (wrap64 (x3_1 + 1)))) = some r:=H
       have A6:=aM A60
       clear A60
       by_cases c7:t303.toList = a0.toList
       ·rw [if_pos c7] at H
        have c7b0:(t303.toList == a0.toList) = true:=beq_iff_eq.mpr c7
        have c7b1:(t303.toList != a0.toList) = false:=bne_eq_false_iff_eq.mpr c7
        clear c7
        have c8b0:=eq_true (of_decide_eq_true (by first|(with_reducible assumption)|assumption):0 ≤ x3_1)
        have c9b0:=eq_true (of_decide_eq_true (by first|(with_reducible assumption)|assumption):x3_1 ≤ (a0.size:Int))
        obtain rfl:=Option.some.inj H
        try go_wp2
        replace HB:=aM (zD HB.out)
        refine start_ (n:=17) (S:=fun w'=>True) (ds:=[]) #[fF,fF,fF,fF,fF,fF,fF,fF,fF,fF,fF,fF,fF,fF,fF,fF,fF] (by kernel_rfl) rfl rfl trivial (fun hHeld=>?_);refine with_tabW impl_root.tab2 impl_root.bits2 (fun HT_ HW_=>?_)
        generalize wr.drew = w10 at HB hHeld ⊢
        refine pure_ (i:=0) (N:=some 4) (v:=?_) (a':=?_) #[tT,fF,fF,fF,fF,fF,fF,fF,fF,fF,fF,fF,fF,fF,fF,fF,fF] rfl rfl (any_of HT_.out (by kernel_rfl)) (fun _ _ _ h=>h) (Or.inl ⟨by rfl,?_⟩) ?_ ?_
        rotate_left
        ·intro w'
         go_simp
         with_reducible rfl
        rotate_left
        ·simp only [Act.put,sI,sZ,sS,i64_w,i32_w]
         rfl
        refine pure_ (i:=1) (N:=some 5) (v:=?_) (a':=?_) #[tT,tT,fF,fF,fF,fF,fF,fF,fF,fF,fF,fF,fF,fF,fF,fF,fF] rfl rfl (any_of HT_.out (by kernel_rfl)) (fun _ _ _ h=>h) (Or.inl ⟨by rfl,?_⟩) ?_ ?_
        rotate_left
        ·intro w'
         go_simp
         with_reducible rfl
        rotate_left
        ·simp only [Act.put,sI,sZ,sS,i64_w,i32_w]
         rfl
        refine pure_ (i:=2) (N:=some 6) (v:=?_) (a':=?_) #[tT,tT,tT,fF,fF,fF,fF,fF,fF,fF,fF,fF,fF,fF,fF,fF,fF] rfl rfl (any_of HT_.out (by kernel_rfl)) (fun _ _ _ h=>h) (Or.inl ⟨by rfl,?_⟩) ?_ ?_
        rotate_left
        ·intro w'
         go_simp
         with_reducible rfl
        rotate_left
        ·simp only [Act.put,sI,sZ,sS,i64_w,i32_w]
         rfl
        refine pure_ (i:=3) (N:=some 7) (v:=?_) (a':=?_) #[tT,tT,tT,tT,fF,fF,fF,fF,fF,fF,fF,fF,fF,fF,fF,fF,fF] rfl rfl (any_of HT_.out (by kernel_rfl)) (fun _ _ _ h=>h) (Or.inl ⟨by rfl,?_⟩) ?_ ?_
        rotate_left
        ·intro w'
         go_simp
         with_reducible rfl
        rotate_left
        ·simp only [Act.put,sI,sZ,sS,i64_w,i32_w]
         rfl
        refine pure_ (i:=4) (N:=some 8) (v:=?_) (a':=?_) #[tT,tT,tT,tT,tT,fF,fF,fF,fF,fF,fF,fF,fF,fF,fF,fF,fF] rfl rfl (any_of HT_.out (by kernel_rfl)) (fun _ _ _ h=>h) (Or.inl ⟨by rfl,?_⟩) ?_ ?_
        rotate_left
        ·intro w'
         go_simp
         with_reducible rfl
        rotate_left
        ·simp only [Act.put,sI,sZ,sS,i64_w,i32_w]
         rfl
        refine pure_ (i:=5) (N:=some 9) (v:=?_) (a':=?_) #[tT,tT,tT,tT,tT,tT,fF,fF,fF,fF,fF,fF,fF,fF,fF,fF,fF] rfl rfl (any_of HT_.out (by kernel_rfl)) (fun _ _ _ h=>h) (Or.inl ⟨by rfl,?_⟩) ?_ ?_
        rotate_left
        ·intro w'
         go_simp
         with_reducible rfl
        rotate_left
        ·simp only [Act.put,sI,sZ,sS,i64_w,i32_w]
         rfl
        refine pure_ (i:=6) (N:=some 10) (v:=?_) (a':=?_) #[tT,tT,tT,tT,tT,tT,tT,fF,fF,fF,fF,fF,fF,fF,fF,fF,fF] rfl rfl (any_of HT_.out (by kernel_rfl)) (fun _ _ _ h=>h) (Or.inl ⟨by rfl,?_⟩) ?_ ?_
        rotate_left
        ·intro w'
         go_simp
         with_reducible rfl
        rotate_left
        ·simp only [Act.put,sI,sZ,sS,i64_w,i32_w]
         rfl
        refine pure_ (i:=7) (N:=some 11) (v:=?_) (a':=?_) #[tT,tT,tT,tT,tT,tT,tT,tT,fF,fF,fF,fF,fF,fF,fF,fF,fF] rfl rfl (any_of HT_.out (by kernel_rfl)) (fun _ _ _ h=>h) (Or.inl ⟨by rfl,?_⟩) ?_ ?_
        rotate_left
        ·intro w'
         go_simp
         with_reducible rfl
        rotate_left
        ·simp only [Act.put,sI,sZ,sS,i64_w,i32_w]
         rfl
        refine pure_ (i:=8) (N:=some 12) (v:=?_) (a':=?_) #[tT,tT,tT,tT,tT,tT,tT,tT,tT,fF,fF,fF,fF,fF,fF,fF,fF] rfl rfl (any_of HT_.out (by kernel_rfl)) (fun _ _ _ h=>h) (Or.inl ⟨by rfl,?_⟩) ?_ ?_
        rotate_left
        ·intro w'
         go_simp
         with_reducible rfl
        rotate_left
        ·simp only [Act.put,sI,sZ,sS,i64_w,i32_w]
         rfl
        refine pure_ (i:=9) (N:=some 13) (v:=?_) (a':=?_) #[tT,tT,tT,tT,tT,tT,tT,tT,tT,tT,fF,fF,fF,fF,fF,fF,fF] rfl rfl (any_of HT_.out (by kernel_rfl)) (fun _ _ _ h=>h) (Or.inl ⟨by rfl,?_⟩) ?_ ?_
        rotate_left
        ·intro w'
         go_simp
         with_reducible rfl
        rotate_left
        ·simp only [Act.put,sI,sZ,sS,i64_w,i32_w]
         rfl
        refine pure_ (i:=10) (N:=some 14) (v:=?_) (a':=?_) #[tT,tT,tT,tT,tT,tT,tT,tT,tT,tT,tT,fF,fF,fF,fF,fF,fF] rfl rfl (any_of HT_.out (by kernel_rfl)) (fun _ _ _ h=>h) (Or.inl ⟨by rfl,?_⟩) ?_ ?_
        rotate_left
        ·intro w'
         go_simp
         with_reducible rfl
        rotate_left
        ·simp only [Act.put,sI,sZ,sS,i64_w,i32_w]
         rfl
        refine pure_ (i:=11) (N:=some 15) (v:=?_) (a':=?_) #[tT,tT,tT,tT,tT,tT,tT,tT,tT,tT,tT,tT,fF,fF,fF,fF,fF] rfl rfl (any_of HT_.out (by kernel_rfl)) (fun _ _ _ h=>h) (Or.inl ⟨by rfl,?_⟩) ?_ ?_
        rotate_left
        ·intro w'
         go_simp
         with_reducible rfl
        rotate_left
        ·simp only [Act.put,sI,sZ,sS,i64_w,i32_w]
         rfl
        refine pure_ (i:=12) (N:=some 16) (v:=?_) (a':=?_) #[tT,tT,tT,tT,tT,tT,tT,tT,tT,tT,tT,tT,tT,fF,fF,fF,fF] rfl rfl (any_of HT_.out (by kernel_rfl)) (fun _ _ _ h=>h) (Or.inl ⟨by rfl,?_⟩) ?_ ?_
        rotate_left
        ·intro w'
         go_simp
         with_reducible rfl
        rotate_left
        ·simp only [Act.put,sI,sZ,sS,i64_w,i32_w]
         rfl
        refine pure_ (i:=14) (N:=some 18) (v:=?_) (a':=?_) #[tT,tT,tT,tT,tT,tT,tT,tT,tT,tT,tT,tT,tT,fF,tT,fF,fF] rfl rfl (any_of HT_.out (by kernel_rfl)) (fun _ _ _ h=>h) (Or.inl ⟨by rfl,?_⟩) ?_ ?_
        rotate_left
        ·intro w'
         go_simp
         with_reducible rfl
        rotate_left
        ·simp only [Act.put,sI,sZ,sS,i64_w,i32_w]
         rfl
        refine one_ (i:=13) (N:=some 17) #[tT,tT,tT,tT,tT,tT,tT,tT,tT,tT,tT,tT,tT,tT,tT,fF,fF] rfl rfl (one_of HT_.out (by kernel_rfl)) (by decide) (fun K hK=>?_)
        refine goes_ Try.func42 (by kernel_rfl) rfl #[.string (a0.extract 0 (x3_1:Int).toNat),.int .i64 (wrap64 ((a0.size:Int) / x3_1))] (by rfl) rfl rfl (by (try simp only [sM,sC,sN]);first|done|rfl|(simp only [List.length_drop,List.length_take];rfl)) ?_
        with_reducible refine (strings_Repeat.calls (a0.extract 0 (x3_1:Int).toNat) (wrap64 ((a0.size:Int) / x3_1)) t303 _ A6.out).mono ?_
        rintro e w11 ⟨rfl,hb⟩
        refine ⟨_,rfl,?_⟩
        replace HB:=aM (below_step (by repeat (first|(with_reducible first|exact HB.out|apply zA|apply zN|apply zD)|exact HB.out)) hb)
        (try clear hb)
        refine hK.out _ _ trivial (fun hHeld=>?_)
        clear hK K
        refine norm_ (a':=?_) ?_ ?_
        rotate_left
        ·show Act.put _ (some 17) _ = _
         simp only [Act.put,sI,sZ,sS,i64_w,i32_w]
         rfl
        refine pure_ (i:=15) (N:=some 19) (v:=?_) (a':=?_) #[tT,tT,tT,tT,tT,tT,tT,tT,tT,tT,tT,tT,tT,tT,tT,tT,fF] rfl rfl (any_of HT_.out (by kernel_rfl)) (fun _ _ _ h=>h) (Or.inl ⟨by rfl,?_⟩) ?_ ?_
        rotate_left
        ·intro w'
         go_simp
         with_reducible rfl
        rotate_left
        ·simp only [Act.put,sI,sZ,sS,i64_w,i32_w]
         rfl
        refine pure_ (i:=16) (N:=some 20) (v:=?_) (a':=?_) #[tT,tT,tT,tT,tT,tT,tT,tT,tT,tT,tT,tT,tT,tT,tT,tT,tT] rfl rfl (any_of HT_.out (by kernel_rfl)) (fun _ _ _ h=>h) (Or.inl ⟨by rfl,?_⟩) ?_ ?_
        rotate_left
        ·intro w'
         go_simp
         with_reducible rfl
        rotate_left
        ·simp only [Act.put,sI,sZ,sS,i64_w,i32_w]
         rfl
        refine done_ (done_of HT_.out (by kernel_rfl)) ?_
        try go_wp2
        go_ret
        exact ⟨by first|rfl|(simp [errW_none,errW_some] <;> rfl)|(simp [*,errW_none,errW_some] <;> rfl),by repeat (first|(with_reducible first|exact HB.out|apply zA|apply zN|apply zD)|exact HB.out)⟩
       ·rw [if_neg c7] at H
        have c7b0:(t303.toList == a0.toList) = false:=beq_eq_false_iff_ne.mpr c7
        have c7b1:(t303.toList != a0.toList) = true:=bne_iff_ne.mpr c7
        have H':=aM H
        clear H
        try go_wp2
        replace HB:=aM (zD HB.out)
        refine start_ (n:=17) (S:=fun w'=>True) (ds:=[]) #[fF,fF,fF,fF,fF,fF,fF,fF,fF,fF,fF,fF,fF,fF,fF,fF,fF] (by kernel_rfl) rfl rfl trivial (fun hHeld=>?_);refine with_tabW impl_root.tab2 impl_root.bits2 (fun HT_ HW_=>?_)
        generalize wr.drew = w12 at HB hHeld ⊢
        refine pure_ (i:=0) (N:=some 4) (v:=?_) (a':=?_) #[tT,fF,fF,fF,fF,fF,fF,fF,fF,fF,fF,fF,fF,fF,fF,fF,fF] rfl rfl (any_of HT_.out (by kernel_rfl)) (fun _ _ _ h=>h) (Or.inl ⟨by rfl,?_⟩) ?_ ?_
        rotate_left
        ·intro w'
         go_simp
         with_reducible rfl
        rotate_left
        ·simp only [Act.put,sI,sZ,sS,i64_w,i32_w]
         rfl
        refine pure_ (i:=1) (N:=some 5) (v:=?_) (a':=?_) #[tT,tT,fF,fF,fF,fF,fF,fF,fF,fF,fF,fF,fF,fF,fF,fF,fF] rfl rfl (any_of HT_.out (by kernel_rfl)) (fun _ _ _ h=>h) (Or.inl ⟨by rfl,?_⟩) ?_ ?_
        rotate_left
        ·intro w'
         go_simp
         with_reducible rfl
        rotate_left
        ·simp only [Act.put,sI,sZ,sS,i64_w,i32_w]
         rfl
        refine pure_ (i:=2) (N:=some 6) (v:=?_) (a':=?_) #[tT,tT,tT,fF,fF,fF,fF,fF,fF,fF,fF,fF,fF,fF,fF,fF,fF] rfl rfl (any_of HT_.out (by kernel_rfl)) (fun _ _ _ h=>h) (Or.inl ⟨by rfl,?_⟩) ?_ ?_
        rotate_left
        ·intro w'
         go_simp
         with_reducible rfl
        rotate_left
        ·simp only [Act.put,sI,sZ,sS,i64_w,i32_w]
         rfl
        refine pure_ (i:=3) (N:=some 7) (v:=?_) (a':=?_) #[tT,tT,tT,tT,fF,fF,fF,fF,fF,fF,fF,fF,fF,fF,fF,fF,fF] rfl rfl (any_of HT_.out (by kernel_rfl)) (fun _ _ _ h=>h) (Or.inl ⟨by rfl,?_⟩) ?_ ?_
        rotate_left
        ·intro w'
         go_simp
         with_reducible rfl
        rotate_left
        ·simp only [Act.put,sI,sZ,sS,i64_w,i32_w]
         rfl
        refine pure_ (i:=4) (N:=some 8) (v:=?_) (a':=?_) #[tT,tT,tT,tT,tT,fF,fF,fF,fF,fF,fF,fF,fF,fF,fF,fF,fF] rfl rfl (any_of HT_.out (by kernel_rfl)) (fun _ _ _ h=>h) (Or.inl ⟨by rfl,?_⟩) ?_ ?_
        rotate_left
        ·intro w'
         go_simp
         with_reducible rfl
        rotate_left
        ·simp only [Act.put,sI,sZ,sS,i64_w,i32_w]
         rfl
        refine pure_ (i:=5) (N:=some 9) (v:=?_) (a':=?_) #[tT,tT,tT,tT,tT,tT,fF,fF,fF,fF,fF,fF,fF,fF,fF,fF,fF] rfl rfl (any_of HT_.out (by kernel_rfl)) (fun _ _ _ h=>h) (Or.inl ⟨by rfl,?_⟩) ?_ ?_
        rotate_left
        ·intro w'
         go_simp
         with_reducible rfl
        rotate_left
        ·simp only [Act.put,sI,sZ,sS,i64_w,i32_w]
         rfl
        refine pure_ (i:=6) (N:=some 10) (v:=?_) (a':=?_) #[tT,tT,tT,tT,tT,tT,tT,fF,fF,fF,fF,fF,fF,fF,fF,fF,fF] rfl rfl (any_of HT_.out (by kernel_rfl)) (fun _ _ _ h=>h) (Or.inl ⟨by rfl,?_⟩) ?_ ?_
        rotate_left
        ·intro w'
         go_simp
         with_reducible rfl
        rotate_left
        ·simp only [Act.put,sI,sZ,sS,i64_w,i32_w]
         rfl
        refine pure_ (i:=7) (N:=some 11) (v:=?_) (a':=?_) #[tT,tT,tT,tT,tT,tT,tT,tT,fF,fF,fF,fF,fF,fF,fF,fF,fF] rfl rfl (any_of HT_.out (by kernel_rfl)) (fun _ _ _ h=>h) (Or.inl ⟨by rfl,?_⟩) ?_ ?_
        rotate_left
        ·intro w'
         go_simp
         with_reducible rfl
        rotate_left
        ·simp only [Act.put,sI,sZ,sS,i64_w,i32_w]
         rfl
        refine pure_ (i:=8) (N:=some 12) (v:=?_) (a':=?_) #[tT,tT,tT,tT,tT,tT,tT,tT,tT,fF,fF,fF,fF,fF,fF,fF,fF] rfl rfl (any_of HT_.out (by kernel_rfl)) (fun _ _ _ h=>h) (Or.inl ⟨by rfl,?_⟩) ?_ ?_
        rotate_left
        ·intro w'
         go_simp
         with_reducible rfl
        rotate_left
        ·simp only [Act.put,sI,sZ,sS,i64_w,i32_w]
         rfl
        refine pure_ (i:=9) (N:=some 13) (v:=?_) (a':=?_) #[tT,tT,tT,tT,tT,tT,tT,tT,tT,tT,fF,fF,fF,fF,fF,fF,fF] rfl rfl (any_of HT_.out (by kernel_rfl)) (fun _ _ _ h=>h) (Or.inl ⟨by rfl,?_⟩) ?_ ?_
        rotate_left
        ·intro w'
         go_simp
         with_reducible rfl
        rotate_left
        ·simp only [Act.put,sI,sZ,sS,i64_w,i32_w]
         rfl
        refine pure_ (i:=10) (N:=some 14) (v:=?_) (a':=?_) #[tT,tT,tT,tT,tT,tT,tT,tT,tT,tT,tT,fF,fF,fF,fF,fF,fF] rfl rfl (any_of HT_.out (by kernel_rfl)) (fun _ _ _ h=>h) (Or.inl ⟨by rfl,?_⟩) ?_ ?_
        rotate_left
        ·intro w'
         go_simp
         with_reducible rfl
        rotate_left
        ·simp only [Act.put,sI,sZ,sS,i64_w,i32_w]
         rfl
        refine pure_ (i:=11) (N:=some 15) (v:=?_) (a':=?_) #[tT,tT,tT,tT,tT,tT,tT,tT,tT,tT,tT,tT,fF,fF,fF,fF,fF] rfl rfl (any_of HT_.out (by kernel_rfl)) (fun _ _ _ h=>h) (Or.inl ⟨by rfl,?_⟩) ?_ ?_
        rotate_left
        ·intro w'
         go_simp
         with_reducible rfl
        rotate_left
        ·simp only [Act.put,sI,sZ,sS,i64_w,i32_w]
         rfl
        refine pure_ (i:=12) (N:=some 16) (v:=?_) (a':=?_) #[tT,tT,tT,tT,tT,tT,tT,tT,tT,tT,tT,tT,tT,fF,fF,fF,fF] rfl rfl (any_of HT_.out (by kernel_rfl)) (fun _ _ _ h=>h) (Or.inl ⟨by rfl,?_⟩) ?_ ?_
        rotate_left
        ·intro w'
         go_simp
         with_reducible rfl
        rotate_left
        ·simp only [Act.put,sI,sZ,sS,i64_w,i32_w]
         rfl
        refine pure_ (i:=14) (N:=some 18) (v:=?_) (a':=?_) #[tT,tT,tT,tT,tT,tT,tT,tT,tT,tT,tT,tT,tT,fF,tT,fF,fF] rfl rfl (any_of HT_.out (by kernel_rfl)) (fun _ _ _ h=>h) (Or.inl ⟨by rfl,?_⟩) ?_ ?_
        rotate_left
        ·intro w'
         go_simp
         with_reducible rfl
        rotate_left
        ·simp only [Act.put,sI,sZ,sS,i64_w,i32_w]
         rfl
        refine one_ (i:=13) (N:=some 17) #[tT,tT,tT,tT,tT,tT,tT,tT,tT,tT,tT,tT,tT,tT,tT,fF,fF] rfl rfl (one_of HT_.out (by kernel_rfl)) (by decide) (fun K hK=>?_)
        refine goes_ Try.func42 (by kernel_rfl) rfl #[.string (a0.extract 0 (x3_1:Int).toNat),.int .i64 (wrap64 ((a0.size:Int) / x3_1))] (by rfl) rfl rfl (by (try simp only [sM,sC,sN]);first|done|rfl|(simp only [List.length_drop,List.length_take];rfl)) ?_
        with_reducible refine (strings_Repeat.calls (a0.extract 0 (x3_1:Int).toNat) (wrap64 ((a0.size:Int) / x3_1)) t303 _ A6.out).mono ?_
        rintro e w13 ⟨rfl,hb⟩
        refine ⟨_,rfl,?_⟩
        replace HB:=aM (below_step (by repeat (first|(with_reducible first|exact HB.out|apply zA|apply zN|apply zD)|exact HB.out)) hb)
        (try clear hb)
        refine hK.out _ _ trivial (fun hHeld=>?_)
        clear hK K
        refine norm_ (a':=?_) ?_ ?_
        rotate_left
        ·show Act.put _ (some 17) _ = _
         simp only [Act.put,sI,sZ,sS,i64_w,i32_w]
         rfl
        refine pure_ (i:=15) (N:=some 19) (v:=?_) (a':=?_) #[tT,tT,tT,tT,tT,tT,tT,tT,tT,tT,tT,tT,tT,tT,tT,tT,fF] rfl rfl (any_of HT_.out (by kernel_rfl)) (fun _ _ _ h=>h) (Or.inl ⟨by rfl,?_⟩) ?_ ?_
        rotate_left
        ·intro w'
         go_simp
         with_reducible rfl
        rotate_left
        ·simp only [Act.put,sI,sZ,sS,i64_w,i32_w]
         rfl
        refine pure_ (i:=16) (N:=some 20) (v:=?_) (a':=?_) #[tT,tT,tT,tT,tT,tT,tT,tT,tT,tT,tT,tT,tT,tT,tT,tT,tT] rfl rfl (any_of HT_.out (by kernel_rfl)) (fun _ _ _ h=>h) (Or.inl ⟨by rfl,?_⟩) ?_ ?_
        rotate_left
        ·intro w'
         go_simp
         with_reducible rfl
        rotate_left
        ·simp only [Act.put,sI,sZ,sS,i64_w,i32_w]
         rfl
        refine done_ (done_of HT_.out (by kernel_rfl)) ?_
        try go_wp2
        go_roundg k1
        case measure=>have:=HK1.out;omega
        case rel=>exact ⟨(wrap64 (x3_1 + 1)),(by first|rfl|(simp;done)|(simp [*];done)),H',⟨by have:=HK1.out;omega⟩,⟨by repeat (first|(with_reducible first|exact HB.out|apply zA|apply zN|apply zD)|exact HB.out)⟩⟩
      ·rw [if_neg c5] at H
       exact absurd H (by simp)
     ·rw [if_neg c4] at H
      exact absurd H (by simp)
    ·rw [if_neg c3] at H
     have c3b0:(((a0.size:Int) % x3_1) == 0) = false:=beq_eq_false_iff_ne.mpr c3
     have c3b1:(((a0.size:Int) % x3_1) != 0) = true:=bne_iff_ne.mpr c3
     try (have c3u:=c3b0;rw [c3t] at c3u;have c3v:=c3b1;rw [c3t] at c3v)
     have H':=aM H
     clear H
     try go_wp2
     replace HB:=aM (zD HB.out)
     refine start_ (n:=17) (S:=fun w'=>True) (ds:=[]) #[fF,fF,fF,fF,fF,fF,fF,fF,fF,fF,fF,fF,fF,fF,fF,fF,fF] (by kernel_rfl) rfl rfl trivial (fun hHeld=>?_);refine with_tabW impl_root.tab2 impl_root.bits2 (fun HT_ HW_=>?_)
     generalize wr.drew = w14 at HB hHeld ⊢
     refine pure_ (i:=0) (N:=some 4) (v:=?_) (a':=?_) #[tT,fF,fF,fF,fF,fF,fF,fF,fF,fF,fF,fF,fF,fF,fF,fF,fF] rfl rfl (any_of HT_.out (by kernel_rfl)) (fun _ _ _ h=>h) (Or.inl ⟨by rfl,?_⟩) ?_ ?_
     rotate_left
     ·intro w'
      go_simp
      with_reducible rfl
     rotate_left
     ·simp only [Act.put,sI,sZ,sS,i64_w,i32_w]
      rfl
     refine pure_ (i:=1) (N:=some 5) (v:=?_) (a':=?_) #[tT,tT,fF,fF,fF,fF,fF,fF,fF,fF,fF,fF,fF,fF,fF,fF,fF] rfl rfl (any_of HT_.out (by kernel_rfl)) (fun _ _ _ h=>h) (Or.inl ⟨by rfl,?_⟩) ?_ ?_
     rotate_left
     ·intro w'
      go_simp
      with_reducible rfl
     rotate_left
     ·simp only [Act.put,sI,sZ,sS,i64_w,i32_w]
      rfl
     refine pure_ (i:=2) (N:=some 6) (v:=?_) (a':=?_) #[tT,tT,tT,fF,fF,fF,fF,fF,fF,fF,fF,fF,fF,fF,fF,fF,fF] rfl rfl (any_of HT_.out (by kernel_rfl)) (fun _ _ _ h=>h) (Or.inl ⟨by rfl,?_⟩) ?_ ?_
     rotate_left
     ·intro w'
      go_simp
      with_reducible rfl
     rotate_left
     ·simp only [Act.put,sI,sZ,sS,i64_w,i32_w]
      rfl
     refine pure_ (i:=3) (N:=some 7) (v:=?_) (a':=?_) #[tT,tT,tT,tT,fF,fF,fF,fF,fF,fF,fF,fF,fF,fF,fF,fF,fF] rfl rfl (any_of HT_.out (by kernel_rfl)) (fun _ _ _ h=>h) (Or.inl ⟨by rfl,?_⟩) ?_ ?_
     rotate_left
     ·intro w'
      go_simp
      with_reducible rfl
     rotate_left
     ·simp only [Act.put,sI,sZ,sS,i64_w,i32_w]
      rfl
     refine pure_ (i:=4) (N:=some 8) (v:=?_) (a':=?_) #[tT,tT,tT,tT,tT,fF,fF,fF,fF,fF,fF,fF,fF,fF,fF,fF,fF] rfl rfl (any_of HT_.out (by kernel_rfl)) (fun _ _ _ h=>h) (Or.inl ⟨by rfl,?_⟩) ?_ ?_
     rotate_left
     ·intro w'
      go_simp
      with_reducible rfl
     rotate_left
     ·simp only [Act.put,sI,sZ,sS,i64_w,i32_w]
      rfl
     refine pure_ (i:=5) (N:=some 9) (v:=?_) (a':=?_) #[tT,tT,tT,tT,tT,tT,fF,fF,fF,fF,fF,fF,fF,fF,fF,fF,fF] rfl rfl (any_of HT_.out (by kernel_rfl)) (fun _ _ _ h=>h) (Or.inl ⟨by rfl,?_⟩) ?_ ?_
     rotate_left
     ·intro w'
      go_simp
      with_reducible rfl
     rotate_left
     ·simp only [Act.put,sI,sZ,sS,i64_w,i32_w]
      rfl
     refine pure_ (i:=6) (N:=some 10) (v:=undef) (a':=?_) #[tT,tT,tT,tT,tT,tT,tT,fF,fF,fF,fF,fF,fF,fF,fF,fF,fF] rfl rfl (any_of HT_.out (by kernel_rfl)) (fun _ _ _ h=>h) (Or.inr ⟨by rfl,rfl⟩) ?_ ?_
     rotate_left
     ·simp only [Act.put,sI,sZ,sS,i64_w,i32_w]
      rfl
     refine pure_ (i:=7) (N:=some 11) (v:=undef) (a':=?_) #[tT,tT,tT,tT,tT,tT,tT,tT,fF,fF,fF,fF,fF,fF,fF,fF,fF] rfl rfl (any_of HT_.out (by kernel_rfl)) (fun _ _ _ h=>h) (Or.inr ⟨by rfl,rfl⟩) ?_ ?_
     rotate_left
     ·simp only [Act.put,sI,sZ,sS,i64_w,i32_w]
      rfl
     refine pure_ (i:=8) (N:=some 12) (v:=undef) (a':=?_) #[tT,tT,tT,tT,tT,tT,tT,tT,tT,fF,fF,fF,fF,fF,fF,fF,fF] rfl rfl (any_of HT_.out (by kernel_rfl)) (fun _ _ _ h=>h) (Or.inr ⟨by rfl,rfl⟩) ?_ ?_
     rotate_left
     ·simp only [Act.put,sI,sZ,sS,i64_w,i32_w]
      rfl
     refine pure_ (i:=9) (N:=some 13) (v:=undef) (a':=?_) #[tT,tT,tT,tT,tT,tT,tT,tT,tT,tT,fF,fF,fF,fF,fF,fF,fF] rfl rfl (any_of HT_.out (by kernel_rfl)) (fun _ _ _ h=>h) (Or.inr ⟨by rfl,rfl⟩) ?_ ?_
     rotate_left
     ·simp only [Act.put,sI,sZ,sS,i64_w,i32_w]
      rfl
     refine pure_ (i:=10) (N:=some 14) (v:=undef) (a':=?_) #[tT,tT,tT,tT,tT,tT,tT,tT,tT,tT,tT,fF,fF,fF,fF,fF,fF] rfl rfl (any_of HT_.out (by kernel_rfl)) (fun _ _ _ h=>h) (Or.inr ⟨by rfl,rfl⟩) ?_ ?_
     rotate_left
     ·simp only [Act.put,sI,sZ,sS,i64_w,i32_w]
      rfl
     refine pure_ (i:=11) (N:=some 15) (v:=undef) (a':=?_) #[tT,tT,tT,tT,tT,tT,tT,tT,tT,tT,tT,tT,fF,fF,fF,fF,fF] rfl rfl (any_of HT_.out (by kernel_rfl)) (fun _ _ _ h=>h) (Or.inr ⟨by rfl,rfl⟩) ?_ ?_
     rotate_left
     ·simp only [Act.put,sI,sZ,sS,i64_w,i32_w]
      rfl
     refine pure_ (i:=12) (N:=some 16) (v:=undef) (a':=?_) #[tT,tT,tT,tT,tT,tT,tT,tT,tT,tT,tT,tT,tT,fF,fF,fF,fF] rfl rfl (any_of HT_.out (by kernel_rfl)) (fun _ _ _ h=>h) (Or.inr ⟨by rfl,rfl⟩) ?_ ?_
     rotate_left
     ·simp only [Act.put,sI,sZ,sS,i64_w,i32_w]
      rfl
     refine pure_ (i:=13) (N:=some 17) (v:=undef) (a':=?_) #[tT,tT,tT,tT,tT,tT,tT,tT,tT,tT,tT,tT,tT,tT,fF,fF,fF] rfl rfl (any_of HT_.out (by kernel_rfl)) (fun _ _ _ h=>h) (Or.inr ⟨by rfl,rfl⟩) ?_ ?_
     rotate_left
     ·simp only [Act.put,sI,sZ,sS,i64_w,i32_w]
      rfl
     refine pure_ (i:=14) (N:=some 18) (v:=undef) (a':=?_) #[tT,tT,tT,tT,tT,tT,tT,tT,tT,tT,tT,tT,tT,tT,tT,fF,fF] rfl rfl (any_of HT_.out (by kernel_rfl)) (fun _ _ _ h=>h) (Or.inr ⟨by rfl,rfl⟩) ?_ ?_
     rotate_left
     ·simp only [Act.put,sI,sZ,sS,i64_w,i32_w]
      rfl
     refine pure_ (i:=15) (N:=some 19) (v:=undef) (a':=?_) #[tT,tT,tT,tT,tT,tT,tT,tT,tT,tT,tT,tT,tT,tT,tT,tT,fF] rfl rfl (any_of HT_.out (by kernel_rfl)) (fun _ _ _ h=>h) (Or.inr ⟨by rfl,rfl⟩) ?_ ?_
     rotate_left
     ·simp only [Act.put,sI,sZ,sS,i64_w,i32_w]
      rfl
     refine pure_ (i:=16) (N:=some 20) (v:=?_) (a':=?_) #[tT,tT,tT,tT,tT,tT,tT,tT,tT,tT,tT,tT,tT,tT,tT,tT,tT] rfl rfl (any_of HT_.out (by kernel_rfl)) (fun _ _ _ h=>h) (Or.inl ⟨by rfl,?_⟩) ?_ ?_
     rotate_left
     ·intro w'
      go_simp
      with_reducible rfl
     rotate_left
     ·simp only [Act.put,sI,sZ,sS,i64_w,i32_w]
      rfl
     refine done_ (done_of HT_.out (by kernel_rfl)) ?_
     try go_wp2
     go_roundg k1
     case measure=>have:=HK1.out;omega
     case rel=>exact ⟨(wrap64 (x3_1 + 1)),(by first|rfl|(simp;done)|(simp [*];done)),H',⟨by have:=HK1.out;omega⟩,⟨by repeat (first|(with_reducible first|exact HB.out|apply zA|apply zN|apply zD)|exact HB.out)⟩⟩
end Go.Proofs.Ytccinmopfchjlaa.Q
end
