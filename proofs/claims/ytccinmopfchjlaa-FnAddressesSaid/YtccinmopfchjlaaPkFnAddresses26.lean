/- Joined texts: Qx42, Qx43, Qx44, Qx45, Qx46, Qx47, Qx48, Qx49, Qx50, Qx51, Qx52 -/
import Derived.Test.YtccinmopfchjlaaPkFnAddresses22
import Derived.Test.YtccinmopfchjlaaPkFnAddresses24
import Derived.Test.YtccinmopfchjlaaPkFnAddresses25
section
namespace Go.Proofs.Ytccinmopfchjlaa.Q
open Go.Proofs.YtccinmopfchjlaaW.Ext
open Go.RowKit Go.Proofs.YtccinmopfchjlaaW.PrintWords Go.Proofs.YtccinmopfchjlaaW.PrintLast Go.Proofs.YtccinmopfchjlaaW.PrintMore
attribute [local go_sem] max2_int min2_int max_two min_two max_three min_three max_four min_four   -- for this text's walks alone
set_option linter.unusedVariables false
set_option linter.unusedSimpArgs false
def spec_DrawSequenceOfAddress.l0:Nat → List Int → Int → List Int → Int → Int → Option (List Int)
 | 0,_,_,_,_,_=>none
 | k + 1,x4,x5,x372000,x372001,x372002=>if x5 > 0 then (if 0 ≤ (wrap64 ((x4.length:Int) - 1)) then (if (wrap64 ((x4.length:Int) - 1)) < (x4.length:Int) then ((spec_l01Next.f x372000 x372001 x372002 5).bind fun bt379=>(if x4.length < 17592186044416 then (spec_DrawSequenceOfAddress.l0 k (x4 ++ [wrap64 ((wrap64 ((rd x4 (wrap64 ((x4.length:Int) - 1))) + 1)) + bt379.1)]) (wrap64 (x5 - 1)) x372000 bt379.2.1 bt379.2.2) else (none))) else (none)) else (none)) else ((spec_l01Next.f x372000 x372001 x372002 20).bind fun bt385=>(if bt385.1 = 0 then ((spec_l01Pick.f x372000 bt385.2.1 bt385.2.2 (([0,2]:List Int))).bind fun bt391=>(if 0 < (x4.length:Int) then (some (x4.set (0:Int).toNat bt391.1)) else (none))) else (if bt385.1 = 1 then (if 0 ≤ (wrap64 ((x4.length:Int) - 1)) then (if (wrap64 ((x4.length:Int) - 1)) < (x4.length:Int) then (if x4.length < 17592186044416 then (some (x4 ++ [rd x4 (wrap64 ((x4.length:Int) - 1))])) else (none)) else (none)) else (none)) else (if bt385.1 = 2 then (if x4.length < 17592186044416 then (some (x4 ++ [41])) else (none)) else (some x4)))))
def spec_DrawSequenceOfAddress.f (k:Nat) (l0:List Int):Option (List Int):=(spec_l01From.f k l0).bind fun bt368=>((spec_l01Next.f bt368.1 bt368.2.1 bt368.2.2 7).bind fun bt375=>(spec_DrawSequenceOfAddress.l0 k (([1]:List Int)) bt375.1 bt368.1 bt375.2.1 bt375.2.2))
theorem spec_DrawSequenceOfAddress.mono_l:∀ k,(∀ y0 y1 y2 y3 y4,LeO (spec_DrawSequenceOfAddress.l0 k y0 y1 y2 y3 y4) (spec_DrawSequenceOfAddress.l0 (k + 1) y0 y1 y2 y3 y4))
 | 0=>fun _ _ _ _ _ r h=>by simp [spec_DrawSequenceOfAddress.l0] at h
 | k + 1=>by
  have ih0:=spec_DrawSequenceOfAddress.mono_l k
  ·intro y0 y1 y2 y3 y4
   unfold spec_DrawSequenceOfAddress.l0
   repeat' first
   | (with_reducible exact ih0 _ _ _ _ _)
   | (with_reducible exact spec_l01From.mono _ _)
   | (with_reducible exact LeO.refl _)
   | (with_reducible exact LeO.none _)
   | (with_reducible refine LeO.ite ?_ ?_)
   | (with_reducible refine LeO.bind ?_ (fun _=>?_))
   | exact ih0 _ _ _ _ _
   | exact spec_l01From.mono _ _
   | exact LeO.none _
   | refine LeO.ite ?_ ?_
   | refine LeO.bind ?_ (fun _=>?_)
theorem spec_DrawSequenceOfAddress.mono:∀ a0 k,LeO (spec_DrawSequenceOfAddress.f k a0) (spec_DrawSequenceOfAddress.f (k + 1) a0):=by
 intro a0 k
 have ih0:=spec_DrawSequenceOfAddress.mono_l k
 unfold spec_DrawSequenceOfAddress.f
 repeat' first
   | (with_reducible exact ih0 _ _ _ _ _)
   | (with_reducible exact spec_l01From.mono _ _)
   | (with_reducible exact LeO.refl _)
   | (with_reducible exact LeO.none _)
   | (with_reducible refine LeO.ite ?_ ?_)
   | (with_reducible refine LeO.bind ?_ (fun _=>?_))
   | exact ih0 _ _ _ _ _
   | exact spec_l01From.mono _ _
   | exact LeO.none _
   | refine LeO.ite ?_ ?_
   | refine LeO.bind ?_ (fun _=>?_)
def spec_DrawSequenceOfAddress.T6:Bool × List (List Nat × List Nat):=(true,[([],[]),([],[]),([],[]),([2],[2]),([3],[3]),([1,4],[1,4]),([5],[5]),([6],[6]),([],[]),([8],[8]),([7,9],[7,9]),([10],[10]),([0,11,9],[0,11]),([12,12,0,1,2,3,4,5,6,7,8,9,10,11,12],[0,1,2,12])])
def spec_DrawSequenceOfAddress.B6:List Nat:=[0,0,0,4,12,30,62,126,0,256,1022,2046,4095,8191]
theorem spec_DrawSequenceOfAddress.tab6:rtab .any (opsOf Try.f12 6) = spec_DrawSequenceOfAddress.T6:=by kernel_rfl
theorem spec_DrawSequenceOfAddress.bits6:waitsOk spec_DrawSequenceOfAddress.T6.2 spec_DrawSequenceOfAddress.B6 = true:=by kernel_rfl
set_option maxHeartbeats 8000000 in
set_option maxRecDepth 100000 in
theorem spec_DrawSequenceOfAddress.calls (k:Nat) (A0:Option Addr) (c0:Nat) (l0:List Int) (r:List Int) (w:World) (hr0:Kd.C (Kd.int .u8) w A0 l0.length l0) (hc0:l0.length ≤ c0) (h:spec_DrawSequenceOfAddress.f k l0 = some r) :
  Calls Try.prog 12 #[.slice A0 l0.length c0] w fun e w'=>∃ v0_:Value,e = .returned (v0_) ∧ Kd.R (Kd.int .i64) 2 w' w.heap.size (fun _=>True) v0_ r ∧ Below w.heap.size w w':=by
 have HR0:=aM hr0
 have HC0:=aM hc0
 clear hr0 hc0
 have HB:=aM (Below.refl w.heap.size w)
 have H:((spec_l01From.f k l0).bind fun bt368=>((spec_l01Next.f bt368.1 bt368.2.1 bt368.2.2 7).bind fun bt375=>(spec_DrawSequenceOfAddress.l0 k (([1]:List Int)) bt375.1 bt368.1 bt375.2.1 bt375.2.2))) = some r:=h
 clear h
 replace H:=Option.bind_eq_some_iff.mp H
 obtain ⟨⟨t368,t369,t370⟩,A20,H⟩:=H
 replace H:((spec_l01Next.f t368 t369 t370 7).bind fun bt375=>(spec_DrawSequenceOfAddress.l0 k (([1]:List Int)) bt375.1 t368 bt375.2.1 bt375.2.2)) = some r:=H
 have A2:=aM A20
 clear A20
 obtain ⟨y372,hy372⟩:∃ y_:List Int,y_ = (([1]:List Int)):=⟨_,rfl⟩
 replace H:((spec_l01Next.f t368 t369 t370 7).bind fun bt375=>(spec_DrawSequenceOfAddress.l0 k y372 bt375.1 t368 bt375.2.1 bt375.2.2)) = some r:=by first|(rw [hy372];with_reducible exact H)|(have H2_:=(Option.bind_some _ _).symm.trans H;rw [hy372];with_reducible exact H2_)|(have H2_:=(Option.bind_some _ _).symm.trans H;with_reducible exact H2_)|with_reducible exact H|(rw [hy372];exact H)|exact H
 have Ny372:=aM hy372
 clear hy372
 replace H:=Option.bind_eq_some_iff.mp H
 obtain ⟨⟨t375,t376,t377⟩,A30,H⟩:=H
 replace H:(spec_DrawSequenceOfAddress.l0 k y372 t375 t368 t376 t377) = some r:=H
 have A3:=aM A30
 clear A30
 have H':=aM H
 clear H
 go_enter Try.func12,Try.ntmps12
 go_wp2_with (first|((with_reducible refine gate_callee (f:=16) rfl ?_);refine goesL_ (some 7) rfl rfl Try.func16 (by kernel_rfl) rfl #[.slice A0 l0.length c0] rfl (by (try simp only [sM,sC,sN]);first|done|rfl|(simp only [List.length_drop,List.length_take];rfl)) ?_;(with_reducible refine (spec_l01From.calls k _ _ l0 t368 t369 t370 w _ ?side1 ?side2 ?side3 A2.out).mono ?_);(case side1=>repeat (first|(with_reducible first|exact HB.out|apply zA|apply zN|apply zD)|exact HB.out));(case side2=>exact HR0.out);(case side3=>exact HC0.out);rintro e w4 ⟨g371,rfl,hi,hb,hb2⟩;refine ⟨_,rfl,?_⟩;replace HB:=aM (hb);have HI371:=aM (hi);(try clear hb);(try clear hb2);(try clear hk);(try clear hi))|((with_reducible refine gate_dst (N:=8) rfl ?_);refine Kd.R_lit (Kd.int .i64) _ 2 ?hg (N:=8) ?hd (xs:=([1]:List Int)) (inner:=[.int .i64 1]) (ok:=fun _=>True) (okp:=fun _=>True) ?hr ?hp (fun _ hk=>hk) trivial (Below.refl _ _) (Nat.le_refl _) (by simp) ?_;(case hd=>rfl);(case hg=>rfl);(case hr=>first|(go_simp;done)|(go_simp;rfl));(case hp=>exact (Reps.one (show Kd.M (Kd.int .i64) _ _ _ 1 [.int .i64 1] from rfl) (Reps.none _ _)));intro v373 w5 ho6 hb hg_ hnew_;clear hg_ hnew_;(first|rw [← Ny372.out] at ho6|(simp only [Int.reduceToNat] at ho6;rw [← Ny372.out] at ho6));have n0_:=aM (Kd.R_lower ho6 (below_size HB.out));have n1_:=aM (IsS57.below HI371.out hb);have n2_:=aM (below_step HB.out hb);clear HI371;clear HB;have HO374:=n0_;have HI371:=n1_;have HB:=n2_;clear n0_ n1_ n2_;clear hb ho6)|((with_reducible refine gate_callee (f:=18) rfl ?_);refine goesL_ (some 10) rfl rfl Try.func18 (by kernel_rfl) rfl #[.pointer (some ⟨g371,0,none⟩),.int .i64 7] rfl (by (try simp only [sM,sC,sN]);first|done|rfl|(simp only [List.length_drop,List.length_take];rfl)) ?_;(with_reducible refine (spec_l01Next.calls g371 t368 t369 t370 7 t375 t376 t377 w _ ?side1 ?side2 A3.out).mono ?_);(case side1=>repeat (first|(with_reducible first|exact HI371.out|apply IsS57.alloc|apply IsS57.drewN|apply IsS57.drew|apply IsS57.set_1|apply IsS57.set_2)|exact HI371.out));(case side2=>repeat (first|(with_reducible first|exact HB.out|apply zA|apply zN|apply zD|refine zS ?_ (IsS57.ge HI371.out))|exact HB.out));rintro e w7 ⟨rfl,hi,hb,hk⟩;refine ⟨_,rfl,?_⟩;replace HO374:=aM (Kd.R_mono (Kd.R_keep (IsS57.apart (show IsS57 w _ g371 t368 t369 t370 from HI371.out) HO374.out (by decide)) hk (fun _ h=>h.2)) (fun _ h=>h.1));replace HB:=aM (hb);replace HI371:=aM (hi);(try clear hb);(try clear hb2);(try clear hk);(try clear hi)))
 go_loopg [4,5] k (fun kq v4 v5 w'=>∃ (x4_1:List Int) (x5_1:Int) (x372001_1:Int) (x372002_1:Int),v5 = .int .i64 x5_1 ∧ Aside0 (spec_DrawSequenceOfAddress.l0 kq x4_1 x5_1 t368 x372001_1 x372002_1 = some r) ∧ Aside0 (kq ≤ k) ∧ Aside0 (Kd.R (Kd.int .i64) 2 w' w.heap.size (fun _=>True) v4 x4_1) ∧ Aside0 (IsS57 w w' g371 t368 x372001_1 x372002_1) ∧ Aside0 (Below w.heap.size w w'))
 case atStart=>exact ⟨(y372),(t375),(t376),(t377),(by first|rfl|(simp;done)|(simp [*];done)),H',⟨Nat.le_refl _⟩,⟨HO374.out⟩,⟨HI371.out⟩,⟨HB.out⟩⟩
 case round =>
  clear H'
  try clear c1
  try clear p2
  obtain ⟨x4_1,x5_1,x372001_1,x372002_1,rfl,HA,HK1,HO_4,HI371,HB⟩:=hrel
  cases gk with
  | zero=>exact absurd HA.out (by simp [spec_DrawSequenceOfAddress.l0])
  | succ k1 =>
   have H:=HA.out
   clear HA
   simp only [spec_DrawSequenceOfAddress.l0] at H
   by_cases c8:x5_1 > 0
   ·rw [if_pos c8] at H
    have c8b0:decide (0 < x5_1) = true:=decide_eq_true c8
    clear c8
    obtain ⟨ji9,hji9⟩:∃ j_:Int,(wrap64 ((x4_1.length:Int) - 1)) = j_:=⟨_,rfl⟩
    replace H:(if 0 ≤ (ji9) then (if (ji9) < (x4_1.length:Int) then ((spec_l01Next.f t368 x372001_1 x372002_1 5).bind fun bt379=>(if x4_1.length < 17592186044416 then (spec_DrawSequenceOfAddress.l0 k1 (x4_1 ++ [wrap64 ((wrap64 ((rd x4_1 (ji9)) + 1)) + bt379.1)]) (wrap64 (x5_1 - 1)) t368 bt379.2.1 bt379.2.2) else (none))) else (none)) else (none)) = some r:=by first|(rw [hji9] at H;exact H)|(simp only [hji9] at H ⊢;exact H)
    have hji9w:(IntKind.i64.wrap ((x4_1.length:Int) - 1)) = ji9:=(i64_w _).trans hji9
    by_cases c10:0 ≤ (ji9)
    ·rw [if_pos c10] at H
     have c10b0:decide (0 ≤ (ji9)) = true:=decide_eq_true c10
     clear c10
     by_cases c11:(ji9) < (x4_1.length:Int)
     ·rw [if_pos c11] at H
      have c11b0:decide ((ji9) < (x4_1.length:Int)) = true:=decide_eq_true c11
      clear c11
      replace H:=Option.bind_eq_some_iff.mp H
      obtain ⟨⟨t379,t380,t381⟩,A120,H⟩:=H
      replace H:(if x4_1.length < 17592186044416 then (spec_DrawSequenceOfAddress.l0 k1 (x4_1 ++ [wrap64 ((wrap64 ((rd x4_1 (ji9)) + 1)) + t379)]) (wrap64 (x5_1 - 1)) t368 t380 t381) else (none)) = some r:=H
      have A12:=aM A120
      clear A120
      by_cases c13:x4_1.length < 17592186044416
      ·rw [if_pos c13] at H
       have LMc13:=aM c13
       clear c13
       obtain ⟨y382,hy382⟩:∃ y_:List Int,y_ = (x4_1 ++ [wrap64 ((wrap64 ((rd x4_1 (ji9)) + 1)) + t379)]):=⟨_,rfl⟩
       replace H:(spec_DrawSequenceOfAddress.l0 k1 y382 (wrap64 (x5_1 - 1)) t368 t380 t381) = some r:=by first|(rw [hy382];with_reducible exact H)|(have H2_:=(Option.bind_some _ _).symm.trans H;rw [hy382];with_reducible exact H2_)|(have H2_:=(Option.bind_some _ _).symm.trans H;with_reducible exact H2_)|with_reducible exact H|(rw [hy382];exact H)|exact H
       have Ny382:=aM hy382
       clear hy382
       have H':=aM H
       clear H
       try go_wp2
       replace HO_4:=aM (rD HO_4.out)
       replace HI371:=aM (IsS57.drew HI371.out)
       replace HB:=aM (zD HB.out)
       obtain ⟨Ao15,co15,eo15⟩:=Kd.R_slice HO_4.out
       (first|subst eo15|(injection eo15 with f1_ f2_ f3_;have f4_:=f1_.symm;have f5_:=f3_.symm;clear f1_ f2_ f3_;subst f4_;subst f5_))
       have p378:0 ≤ ((ji9):Int):=of_decide_eq_true (by first|(with_reducible assumption)|assumption)
       have q378:(ji9) < (x4_1.length:Int):=of_decide_eq_true (by first|(with_reducible assumption)|assumption)
       obtain ⟨ad378,e378,hx378_0⟩:=Kd.at_int (Kd.R_reads' HO_4.out).2.2 (ji9) p378 q378
       cases e378
       replace p378:=eq_true p378
       replace q378:=eq_true q378
       refine start_ (n:=14) (S:=fun w'=>w'.cell? (ad378.add ((ji9)).toNat) = some (.int .i64 (rd x4_1 (ji9)))) (ds:=[11,12]) #[fF,fF,fF,fF,fF,fF,fF,fF,fF,fF,fF,fF,fF,fF] (by kernel_rfl) rfl rfl (hx378_0) (fun hHeld=>?_);refine with_tabW spec_DrawSequenceOfAddress.tab6 spec_DrawSequenceOfAddress.bits6 (fun HT_ HW_=>?_)
       generalize wr.drew = w14 at HO_4 HI371 HB hx378_0 hHeld ⊢
       refine pure_ (i:=0) (N:=some 15) (v:=?_) (a':=?_) #[tT,fF,fF,fF,fF,fF,fF,fF,fF,fF,fF,fF,fF,fF] rfl rfl (any_of HT_.out (by kernel_rfl)) (fun _ _ _ h=>h) (Or.inl ⟨by rfl,?_⟩) ?_ ?_
       rotate_left
       ·intro w'
        go_simp
        with_reducible rfl
       rotate_left
       ·simp only [Act.put,sI,sZ,sS,i64_w,i32_w]
        rfl
       refine pure_ (i:=1) (N:=some 16) (v:=?_) (a':=?_) #[tT,tT,fF,fF,fF,fF,fF,fF,fF,fF,fF,fF,fF,fF] rfl rfl (any_of HT_.out (by kernel_rfl)) (fun _ _ _ h=>h) (Or.inl ⟨by rfl,?_⟩) ?_ ?_
       rotate_left
       ·intro w'
        go_simp
        with_reducible rfl
       rotate_left
       ·simp only [Act.put,sI,sZ,sS,i64_w,i32_w]
        rfl
       refine pure_ (i:=2) (N:=some 17) (v:=?_) (a':=?_) #[tT,tT,tT,fF,fF,fF,fF,fF,fF,fF,fF,fF,fF,fF] rfl rfl (any_of HT_.out (by kernel_rfl)) (fun _ _ _ h=>h) (Or.inl ⟨by rfl,?_⟩) ?_ ?_
       rotate_left
       ·intro w'
        go_simp
        with_reducible rfl
       rotate_left
       ·simp only [Act.put,sI,sZ,sS,i64_w,i32_w]
        rfl
       refine pure_ (i:=3) (N:=some 18) (v:=?_) (a':=?_) #[tT,tT,tT,tT,fF,fF,fF,fF,fF,fF,fF,fF,fF,fF] rfl rfl (any_of HT_.out (by kernel_rfl)) (fun _ _ _ h=>h) (Or.inl ⟨by rfl,?_⟩) ?_ ?_
       rotate_left
       ·intro w'
        go_simp
        with_reducible rfl
       rotate_left
       ·simp only [Act.put,sI,sZ,sS,i64_w,i32_w]
        rfl
       refine pure_ (i:=4) (N:=some 19) (v:=?_) (a':=?_) #[tT,tT,tT,tT,tT,fF,fF,fF,fF,fF,fF,fF,fF,fF] rfl rfl (any_of HT_.out (by kernel_rfl)) (fun _ _ _ h=>h) (Or.inl ⟨by rfl,?_⟩) ?_ ?_
       rotate_left
       ·intro w'
        go_simp
        with_reducible rfl
       rotate_left
       ·simp only [Act.put,sI,sZ,sS,i64_w,i32_w]
        rfl
       refine pure_ (i:=5) (N:=some 20) (v:=?_) (a':=?_) #[tT,tT,tT,tT,tT,tT,fF,fF,fF,fF,fF,fF,fF,fF] rfl rfl (any_of HT_.out (by kernel_rfl)) (fun _ _ _ h=>h) (Or.inl ⟨by rfl,?_⟩) ?_ ?_
       rotate_left
       ·intro w'
        go_simp
        with_reducible rfl
       rotate_left
       ·simp only [Act.put,sI,sZ,sS,i64_w,i32_w]
        rfl
       refine pure_ (i:=8) (N:=some 23) (v:=?_) (a':=?_) #[tT,tT,tT,tT,tT,tT,fF,fF,tT,fF,fF,fF,fF,fF] rfl rfl (any_of HT_.out (by kernel_rfl)) (fun _ _ _ h=>h) (Or.inl ⟨by rfl,?_⟩) ?_ ?_
       rotate_left
       ·intro w'
        go_simp
        with_reducible rfl
       rotate_left
       ·simp only [Act.put,sI,sZ,sS,i64_w,i32_w]
        rfl
       refine take_ (i:=6) (N:=some 21) (v:=?_) (a':=?_) #[tT,tT,tT,tT,tT,tT,tT,fF,tT,fF,fF,fF,fF,fF] rfl rfl (take_ofW HT_.out HW_.out (by kernel_rfl)) (fun _ _ _ h=>h) (Or.inl ⟨by rfl,?_⟩) hHeld ?_ ?_
       rotate_left
       ·intro w' s0
        go_simp
        with_reducible rfl
       rotate_left
       ·simp only [Act.put,sI,sZ,sS,i64_w,i32_w]
        rfl
       refine pure_ (i:=7) (N:=some 22) (v:=?_) (a':=?_) #[tT,tT,tT,tT,tT,tT,tT,tT,tT,fF,fF,fF,fF,fF] rfl rfl (any_of HT_.out (by kernel_rfl)) (fun _ _ _ h=>h) (Or.inl ⟨by rfl,?_⟩) ?_ ?_
       rotate_left
       ·intro w'
        go_simp
        with_reducible rfl
       rotate_left
       ·simp only [Act.put,sI,sZ,sS,i64_w,i32_w]
        rfl
       refine one_ (i:=9) (N:=some 24) #[tT,tT,tT,tT,tT,tT,tT,tT,tT,tT,fF,fF,fF,fF] rfl rfl (one_of HT_.out (by kernel_rfl)) (by decide) (fun K hK=>?_)
       refine goes_ Try.func18 (by kernel_rfl) rfl #[.pointer (some ⟨g371,0,none⟩),.int .i64 5] (by rfl) rfl rfl (by (try simp only [sM,sC,sN]);first|done|rfl|(simp only [List.length_drop,List.length_take];rfl)) ?_
       with_reducible refine (spec_l01Next.calls g371 t368 x372001_1 x372002_1 5 t379 t380 t381 w _ ?side1 ?side2 A12.out).mono ?_
       (case side1=>repeat (first|(with_reducible first|exact HI371.out|apply IsS57.alloc|apply IsS57.drewN|apply IsS57.drew|apply IsS57.set_1|apply IsS57.set_2)|exact HI371.out))
       (case side2=>repeat (first|(with_reducible first|exact HB.out|apply zA|apply zN|apply zD|refine zS ?_ (IsS57.ge HI371.out))|exact HB.out))
       rintro e w16 ⟨rfl,hi,hb,hk⟩
       have HS0_:=keep_cell hk (hHeld) (by first|(rw [add_block];exact Kd.own_blk (IsS57.own_ne HI371.out HO_4.out (by decide)))|(show (Addr.add _ _).block ≠ _;rw [add_block];exact Kd.own_blk (IsS57.own_ne HI371.out HO_4.out (by decide)))|exact Kd.own_blk (IsS57.own_ne HI371.out HO_4.out (by decide)))
       refine ⟨_,rfl,?_⟩
       replace HO_4:=aM (Kd.R_mono (Kd.R_keep (IsS57.apart (show IsS57 w _ g371 t368 x372001_1 x372002_1 from HI371.out) HO_4.out (by decide)) hk (fun _ h=>h.2)) (fun _ h=>h.1))
       replace HB:=aM (hb)
       replace HI371:=aM (hi)
       (try clear hb)
       refine hK.out _ _ (HS0_) (fun hHeld=>?_)
       clear hK K
       refine norm_ (a':=?_) ?_ ?_
       rotate_left
       ·show Act.put _ (some 24) _ = _
        simp only [Act.put,sI,sZ,sS,i64_w,i32_w]
        rfl
       refine pure_ (i:=10) (N:=some 25) (v:=?_) (a':=?_) #[tT,tT,tT,tT,tT,tT,tT,tT,tT,tT,tT,fF,fF,fF] rfl rfl (any_of HT_.out (by kernel_rfl)) (fun _ _ _ h=>h) (Or.inl ⟨by rfl,?_⟩) ?_ ?_
       rotate_left
       ·intro w'
        go_simp
        with_reducible rfl
       rotate_left
       ·simp only [Act.put,sI,sZ,sS,i64_w,i32_w]
        rfl
       refine last_ (i:=11) (N:=some 26) #[tT,tT,tT,tT,tT,tT,tT,tT,tT,tT,tT,tT,fF,fF] rfl rfl (one_of HT_.out (by kernel_rfl)) (by decide) (fun K hK=>?_)
       refine value_ (w1:=?_) (v:=?_) (by rfl) rfl ?_ ?_
       rotate_left 2
       ·go_simp
        constructor
        ·rfl
        ·rfl
       refine hK.out _ _ ?_
       clear hK K
       refine norm_ (a':=?_) ?_ ?_
       rotate_left
       ·show Act.put _ (some 26) _ = _
        simp only [Act.put,sI,sZ,sS,i64_w,i32_w]
        rfl
       refine last_ (i:=12) (N:=some 27) #[tT,tT,tT,tT,tT,tT,tT,tT,tT,tT,tT,tT,tT,fF] rfl rfl (one_of HT_.out (by kernel_rfl)) (by decide) (fun K hK=>?_)
       refine Kd.R_append_step (Kd.int .i64) (w0:=w) w.heap.size (by rfl) (.tmp 15) (.tmp 26) 31 2 (.int .i64 0) 8 rfl Try.underlying31 info2 rfl (by decide) (by omega) (.slice (some ad378) x4_1.length co15) x4_1 (wrap64 ((wrap64 ((rd x4_1 (ji9)) + 1)) + t379)) [.int .i64 (wrap64 ((wrap64 ((rd x4_1 (ji9)) + 1)) + t379))] (fun _=>True) (fun _=>False) rfl rfl ?aP (fun _ hk=>hk.elim) ?aF ?aO ?aB ?aS ?aL ?_
       (case aP=>exact rfl)
       (case aB=>exact HB.out)
       (case aF=>exact (fun _ _=>trivial))
       (case aO=>exact HO_4.out)
       (case aS=>exact (below_size HB.out))
       (case aL=>have:=LMc13.out;omega)
       intro v383 w17 ho hb hg hat
       rw [← Ny382.out] at ho
       have n0_:=aM (IsS57.grown HI371.out hg (IsS57.own_ne HI371.out HO_4.out (by decide)))
       have n1_:=aM (hb)
       have n2_:=aM (ho)
       clear HI371
       clear HB
       clear HO_4
       have HI371:=n0_
       have HB:=n1_
       have HO384:=n2_
       clear n0_ n1_ n2_
       clear ho hb hg hat
       refine hK.out _ _ ?_
       clear hK K
       refine norm_ (a':=?_) ?_ ?_
       rotate_left
       ·show Act.put _ (some 27) _ = _
        simp only [Act.put,sI,sZ,sS,i64_w,i32_w]
        rfl
       refine pure_ (i:=13) (N:=some 4) (v:=?_) (a':=?_) #[tT,tT,tT,tT,tT,tT,tT,tT,tT,tT,tT,tT,tT,tT] rfl rfl (any_of HT_.out (by kernel_rfl)) (fun _ _ _ h=>h) (Or.inl ⟨by rfl,?_⟩) ?_ ?_
       rotate_left
       ·intro w'
        go_simp
        with_reducible rfl
       rotate_left
       ·simp only [Act.put,sI,sZ,sS,i64_w,i32_w]
        rfl
       refine done_ (done_of HT_.out (by kernel_rfl)) ?_
       try go_wp2
       go_roundg k1
       case measure=>have:=HK1.out;omega
       case rel=>exact ⟨(y382),(wrap64 (x5_1 - 1)),(t380),(t381),(by first|rfl|(simp;done)|(simp [*];done)),H',⟨by have:=HK1.out;omega⟩,⟨HO384.out⟩,⟨HI371.out⟩,⟨HB.out⟩⟩
      ·rw [if_neg c13] at H
       exact absurd H (by simp)
     ·rw [if_neg c11] at H
      exact absurd H (by simp)
    ·rw [if_neg c10] at H
     exact absurd H (by simp)
   ·rw [if_neg c8] at H
    have c8b0:decide (0 < x5_1) = false:=decide_eq_false c8
    clear c8
    replace H:=Option.bind_eq_some_iff.mp H
    obtain ⟨⟨t385,t386,t387⟩,A180,H⟩:=H
    replace H:(if t385 = 0 then ((spec_l01Pick.f t368 t386 t387 (([0,2]:List Int))).bind fun bt391=>(if 0 < (x4_1.length:Int) then (some (x4_1.set (0:Int).toNat bt391.1)) else (none))) else (if t385 = 1 then (if 0 ≤ (wrap64 ((x4_1.length:Int) - 1)) then (if (wrap64 ((x4_1.length:Int) - 1)) < (x4_1.length:Int) then (if x4_1.length < 17592186044416 then (some (x4_1 ++ [rd x4_1 (wrap64 ((x4_1.length:Int) - 1))])) else (none)) else (none)) else (none)) else (if t385 = 2 then (if x4_1.length < 17592186044416 then (some (x4_1 ++ [41])) else (none)) else (some x4_1)))) = some r:=H
    have A18:=aM A180
    clear A180
    by_cases c19:t385 = 0
    ·rw [if_pos c19] at H
     have c19b0:(t385 == 0) = true:=beq_iff_eq.mpr c19
     have c19b1:(t385 != 0) = false:=bne_eq_false_iff_eq.mpr c19
     clear c19
     obtain ⟨y388,hy388⟩:∃ y_:List Int,y_ = (([0,2]:List Int)):=⟨_,rfl⟩
     replace H:((spec_l01Pick.f t368 t386 t387 y388).bind fun bt391=>(if 0 < (x4_1.length:Int) then (some (x4_1.set (0:Int).toNat bt391.1)) else (none))) = some r:=by first|(rw [hy388];with_reducible exact H)|(have H2_:=(Option.bind_some _ _).symm.trans H;rw [hy388];with_reducible exact H2_)|(have H2_:=(Option.bind_some _ _).symm.trans H;with_reducible exact H2_)|with_reducible exact H|(rw [hy388];exact H)|exact H
     have Ny388:=aM hy388
     clear hy388
     replace H:=Option.bind_eq_some_iff.mp H
     obtain ⟨⟨t391,t392,t393⟩,A200,H⟩:=H
     replace H:(if 0 < (x4_1.length:Int) then (some (x4_1.set (0:Int).toNat t391)) else (none)) = some r:=H
     have A20:=aM A200
     clear A200
     by_cases c21:0 < (x4_1.length:Int)
     ·rw [if_pos c21] at H
      have c21b0:decide (0 < (x4_1.length:Int)) = true:=decide_eq_true c21
      have c21b1:decide (0 < x4_1.length) = true:=decide_eq_true (by omega)
      clear c21
      obtain ⟨y394,hy394⟩:∃ y_:List Int,y_ = (x4_1.set (0:Int).toNat t391):=⟨_,rfl⟩
      replace H:(some y394) = some r:=by first|(rw [hy394];with_reducible exact H)|(have H2_:=(Option.bind_some _ _).symm.trans H;rw [hy394];with_reducible exact H2_)|(have H2_:=(Option.bind_some _ _).symm.trans H;with_reducible exact H2_)|with_reducible exact H|(rw [hy394];exact H)|exact H
      have Ny394:=aM hy394
      clear hy394
      obtain rfl:=Option.some.inj H
      go_wp2_with (first|((with_reducible refine gate_callee (f:=18) rfl ?_);refine goesL_ (some 29) rfl rfl Try.func18 (by kernel_rfl) rfl #[.pointer (some ⟨g371,0,none⟩),.int .i64 20] rfl (by (try simp only [sM,sC,sN]);first|done|rfl|(simp only [List.length_drop,List.length_take];rfl)) ?_;(with_reducible refine (spec_l01Next.calls g371 t368 x372001_1 x372002_1 20 t385 t386 t387 w _ ?side1 ?side2 A18.out).mono ?_);(case side1=>repeat (first|(with_reducible first|exact HI371.out|apply IsS57.alloc|apply IsS57.drewN|apply IsS57.drew|apply IsS57.set_1|apply IsS57.set_2)|exact HI371.out));(case side2=>repeat (first|(with_reducible first|exact HB.out|apply zA|apply zN|apply zD|refine zS ?_ (IsS57.ge HI371.out))|exact HB.out));rintro e w23 ⟨rfl,hi,hb,hk⟩;refine ⟨_,rfl,?_⟩;replace HO_4:=aM (Kd.R_mono (Kd.R_keep (IsS57.apart (show IsS57 w _ g371 t368 x372001_1 x372002_1 from HI371.out) HO_4.out (by decide)) hk (fun _ h=>h.2)) (fun _ h=>h.1));replace HB:=aM (hb);replace HI371:=aM (hi);(try clear hb);(try clear hb2);(try clear hk);(try clear hi))|((with_reducible refine gate_dst (N:=34) rfl ?_);refine Kd.R_lit (Kd.int .i64) _ 2 ?hg (N:=34) ?hd (xs:=([0,2]:List Int)) (inner:=[.int .i64 0,.int .i64 2]) (ok:=fun _=>True) (okp:=fun _=>True) ?hr ?hp (fun _ hk=>hk) trivial (Below.refl _ _) (Nat.le_refl _) (by simp) ?_;(case hd=>rfl);(case hg=>rfl);(case hr=>first|(go_simp;done)|(go_simp;rfl));(case hp=>exact (Reps.one (show Kd.M (Kd.int .i64) _ _ _ 0 [.int .i64 0] from rfl) (Reps.one (show Kd.M (Kd.int .i64) _ _ _ 2 [.int .i64 2] from rfl) (Reps.none _ _))));intro v389 w24 ho25 hb hg_ hnew_;clear hg_ hnew_;(first|rw [← Ny388.out] at ho25|(simp only [Int.reduceToNat] at ho25;rw [← Ny388.out] at ho25));have n0_:=aM (Kd.R_elder' HO_4.out (Kd.R_base ho25) hb);have n1_:=aM (Kd.R_lower (Kd.R_new' ho25 (Kd.R_lt HO_4.out)) (below_size HB.out));have n2_:=aM (IsS57.below HI371.out hb);have n3_:=aM (below_step HB.out hb);clear HO_4;clear HI371;clear HB;have HO_4:=n0_;have HO390:=n1_;have HI371:=n2_;have HB:=n3_;clear n0_ n1_ n2_ n3_;clear hb ho25;obtain ⟨Ao26,co26,eo26⟩:=Kd.R_slice HO390.out;subst eo26)|((with_reducible refine gate_callee (f:=26) rfl ?_);refine goesL_ (some 35) rfl rfl Try.func26 (by kernel_rfl) rfl #[.pointer (some ⟨g371,0,none⟩),.slice Ao26 y388.length co26] rfl (by (try simp only [sM,sC,sN]);first|done|rfl|(simp only [List.length_drop,List.length_take];rfl)) ?_;(with_reducible refine (spec_l01Pick.calls g371 t368 t386 t387 _ _ y388 t391 t392 t393 w _ ?side1 ?side2 ?side3 ?side4 ?side5 A20.out).mono ?_);(case side1=>repeat (first|(with_reducible first|exact HI371.out|apply IsS57.alloc|apply IsS57.drewN|apply IsS57.drew|apply IsS57.set_1|apply IsS57.set_2)|exact HI371.out));(case side2=>repeat (first|(with_reducible first|exact HB.out|apply zA|apply zN|apply zD|refine zS ?_ (IsS57.ge HI371.out))|exact HB.out));(case side3=>repeat (first|exact (Kd.R_reads' HO390.out).2.2|(with_reducible refine cA ?_ _)|(with_reducible refine cN ?_ _)|(with_reducible refine cD ?_)));(case side4=>exact (Kd.R_reads' HO390.out).2.1);(case side5=>exact far_slice (IsS57.own_ne HI371.out HO390.out (by decide)));rintro e w27 ⟨rfl,hi,hb,hk⟩;refine ⟨_,rfl,?_⟩;replace HO_4:=aM (Kd.R_mono (Kd.R_keep (IsS57.apart (show IsS57 w _ g371 t368 t386 t387 from HI371.out) HO_4.out (by decide)) hk (fun _ h=>h.2)) (fun _ h=>h.1));replace HO390:=aM (Kd.R_mono (Kd.R_keep (IsS57.apart (show IsS57 w _ g371 t368 t386 t387 from HI371.out) HO390.out (by decide)) hk (fun _ h=>h.2)) (fun _ h=>h.1));replace HB:=aM (hb);replace HI371:=aM (hi);(try clear hb);(try clear hb2);(try clear hk);(try clear hi);have p22:0 ≤ (0:Int):=(by omega);have q22:(0:Int) < ((x4_1.length:Int):Int):=of_decide_eq_true (by first|(with_reducible assumption)|assumption);have qi22:(0 < x4_1.length) = True:=eq_true (by omega);obtain ⟨go22,co22,eo22,gb22,gl22,cl22,HG22⟩:=Kd.R_form HO_4.out (by omega);(first|cases eo22|(injection eo22 with ea_ en_ ec_;(first|subst ea_|(injection ea_ with ea_;subst ea_));subst ec_;clear en_));have GB22:=aM gb22;have GG22:=aM HG22;clear gb22 gl22 HG22;obtain ⟨hx22_0,hf22_0⟩:=Kd.R_celln 0 HO_4.out (0:Int) p22 q22;(try rw [show ((0:Int)).toNat = 0 from rfl] at hx22_0);(try simp only [Nat.reduceMul,Nat.zero_mul,Nat.zero_add,Nat.reduceAdd] at hx22_0);(try rw [show ((0:Int)).toNat = 0 from rfl] at hf22_0);(try simp only [Nat.reduceMul,Nat.zero_mul,Nat.zero_add,Nat.reduceAdd] at hf22_0);replace p22:=eq_true p22;replace q22:=eq_true q22;have n_:=aM (Kd.R_mono (ok':=(fun k_=>some k_ ≠ (.slice Ao26 y388.length co26:Value).ownBlock)) HO_4.out (fun k_ hk=>hk.2));clear HO_4;have HO_4:=n_;clear n_;obtain ⟨hy28_,hz28_⟩:=Kd.R_celln 0 HO_4.out (0:Int) (by omega) (of_decide_eq_true (by first|(with_reducible assumption)|assumption));(try simp only [Int.reduceToNat,Int.toNat_zero,Int.toNat_ofNat,Nat.reduceMul,Nat.zero_mul,Nat.zero_add] at hy28_ hz28_);(try rw [show ((0:Int)).toNat = 0 from rfl] at hy28_);(try rw [show ((0:Int)).toNat = 0 from rfl] at hz28_);have HP28:=Kd.R_putg HO_4.out (0:Int) t391)|((with_reducible refine gate_store (t:=2) (p:=36) rfl ?_);refine store_event (t:=2) (p:=36) (v:=?vo_w29) (w1:=(w27.setCell ⟨go22,(0:Int).toNat,none⟩ (.int .i64 t391))) ?hg ?ho ?hn ?hr ?_;(case ho=>rfl);(case hg=>rfl);(case hn=>rfl);(case hr=>first|(go_simp;done)|(go_simp;rfl));intro w29 hw;have hg:w27.grownBy w29 (some go22):=(by rw [hw];exact HP28.2);have hp_:Kd.R (Kd.int .i64) 2 w29 w.heap.size (fun k_=>some k_ ≠ (.slice Ao26 y388.length co26:Value).ownBlock) (.slice (some ⟨go22,0,none⟩) x4_1.length co22) y394:=(by rw [hw,Ny394.out];exact HP28.1);clear HP28;have n0_:=aM (hp_);have n1_:=aM (IsS57.grown HI371.out hg (IsS57.own_ne HI371.out HO_4.out (by decide)));have n2_:=aM (Kd.R_after (v:=(.slice (some ⟨go22,0,none⟩) x4_1.length co22)) (v1:=(.slice (some ⟨go22,0,none⟩) x4_1.length co22)) (ok:=(fun _=>True)) HO390.out hg (.inl rfl));have n3_:=aM ((by rw [hw];exact zS (HB.out) GB22.out:Below w.heap.size w w29));clear HO_4;clear HI371;clear HO390;clear HB;have HO_4:=n0_;have HI371:=n1_;have HO390:=n2_;have HB:=n3_;clear n0_ n1_ n2_ n3_;clear hg hw hp_))
      go_ret
      exact ⟨_,by first|rfl|(simp [errW_none,errW_some] <;> rfl)|(simp [*,errW_none,errW_some] <;> rfl),by (with_reducible repeat (first|apply rA|apply rN|apply rD));exact Kd.R_mono HO_4.out (fun _ hk=>trivial),HB.out⟩
     ·rw [if_neg c21] at H
      exact absurd H (by simp)
    ·rw [if_neg c19] at H
     have c19b0:(t385 == 0) = false:=beq_eq_false_iff_ne.mpr c19
     have c19b1:(t385 != 0) = true:=bne_iff_ne.mpr c19
     by_cases c30:t385 = 1
     ·rw [if_pos c30] at H
      have c30b0:(t385 == 1) = true:=beq_iff_eq.mpr c30
      have c30b1:(t385 != 1) = false:=bne_eq_false_iff_eq.mpr c30
      clear c30
      obtain ⟨ji31,hji31⟩:∃ j_:Int,(wrap64 ((x4_1.length:Int) - 1)) = j_:=⟨_,rfl⟩
      replace H:(if 0 ≤ (ji31) then (if (ji31) < (x4_1.length:Int) then (if x4_1.length < 17592186044416 then (some (x4_1 ++ [rd x4_1 (ji31)])) else (none)) else (none)) else (none)) = some r:=by first|(rw [hji31] at H;exact H)|(simp only [hji31] at H ⊢;exact H)
      (try rw [hji31] at A18)
      have hji31w:(IntKind.i64.wrap ((x4_1.length:Int) - 1)) = ji31:=(i64_w _).trans hji31
      by_cases c32:0 ≤ (ji31)
      ·rw [if_pos c32] at H
       have c32b0:decide (0 ≤ (ji31)) = true:=decide_eq_true c32
       clear c32
       by_cases c33:(ji31) < (x4_1.length:Int)
       ·rw [if_pos c33] at H
        have c33b0:decide ((ji31) < (x4_1.length:Int)) = true:=decide_eq_true c33
        clear c33
        by_cases c34:x4_1.length < 17592186044416
        ·rw [if_pos c34] at H
         have LMc34:=aM c34
         clear c34
         obtain ⟨y396,hy396⟩:∃ y_:List Int,y_ = (x4_1 ++ [rd x4_1 (ji31)]):=⟨_,rfl⟩
         replace H:(some y396) = some r:=by first|(rw [hy396];with_reducible exact H)|(have H2_:=(Option.bind_some _ _).symm.trans H;rw [hy396];with_reducible exact H2_)|(have H2_:=(Option.bind_some _ _).symm.trans H;with_reducible exact H2_)|with_reducible exact H|(rw [hy396];exact H)|exact H
         have Ny396:=aM hy396
         clear hy396
         obtain rfl:=Option.some.inj H
         go_wp2_with (first|((with_reducible refine gate_callee (f:=18) rfl ?_);refine goesL_ (some 29) rfl rfl Try.func18 (by kernel_rfl) rfl #[.pointer (some ⟨g371,0,none⟩),.int .i64 20] rfl (by (try simp only [sM,sC,sN]);first|done|rfl|(simp only [List.length_drop,List.length_take];rfl)) ?_;(with_reducible refine (spec_l01Next.calls g371 t368 x372001_1 x372002_1 20 t385 t386 t387 w _ ?side1 ?side2 A18.out).mono ?_);(case side1=>repeat (first|(with_reducible first|exact HI371.out|apply IsS57.alloc|apply IsS57.drewN|apply IsS57.drew|apply IsS57.set_1|apply IsS57.set_2)|exact HI371.out));(case side2=>repeat (first|(with_reducible first|exact HB.out|apply zA|apply zN|apply zD|refine zS ?_ (IsS57.ge HI371.out))|exact HB.out));rintro e w35 ⟨rfl,hi,hb,hk⟩;refine ⟨_,rfl,?_⟩;replace HO_4:=aM (Kd.R_mono (Kd.R_keep (IsS57.apart (show IsS57 w _ g371 t368 x372001_1 x372002_1 from HI371.out) HO_4.out (by decide)) hk (fun _ h=>h.2)) (fun _ h=>h.1));replace HB:=aM (hb);replace HI371:=aM (hi);(try clear hb);(try clear hb2);(try clear hk);(try clear hi);obtain ⟨Ao36,co36,eo36⟩:=Kd.R_slice HO_4.out;subst eo36;have p395:0 ≤ ((ji31):Int):=of_decide_eq_true (by first|(with_reducible assumption)|assumption);have q395:(ji31) < (x4_1.length:Int):=of_decide_eq_true (by first|(with_reducible assumption)|assumption);obtain ⟨ad395,e395,hx395_0⟩:=Kd.at_int (Kd.R_reads' HO_4.out).2.2 (ji31) p395 q395;cases e395;replace p395:=eq_true p395;replace q395:=eq_true q395)|((with_reducible refine gate_builtin (b:=.append) (xs:=#[.tmp 39,.tmp 46]) rfl ?_);at_builtin;refine Kd.R_append (Kd.int .i64) (w0:=w) w.heap.size rfl (.tmp 39) (.tmp 46) 31 2 (.int .i64 0) 8 rfl Try.underlying31 info2 rfl (by decide) (by omega) (.slice (some ad395) x4_1.length co36) x4_1 (rd x4_1 (ji31)) [.int .i64 (rd x4_1 (ji31))] (fun _=>True) (fun _=>False) rfl rfl ?aP (fun _ hk=>hk.elim) ?aF ?aO ?aB ?aS ?aL ?_;(case aP=>exact rfl);(case aB=>exact HB.out);(case aF=>exact (fun _ _=>trivial));(case aO=>exact HO_4.out);(case aS=>exact (below_size HB.out));(case aL=>have:=LMc34.out;omega);intro v397 w37 ho hb hg hat;rw [← Ny396.out] at ho;have n0_:=aM (IsS57.grown HI371.out hg (IsS57.own_ne HI371.out HO_4.out (by decide)));have n1_:=aM (hb);have n2_:=aM (ho);clear HI371;clear HB;clear HO_4;have HI371:=n0_;have HB:=n1_;have HO398:=n2_;clear n0_ n1_ n2_;clear ho hb hg hat))
         go_ret
         exact ⟨_,by first|rfl|(simp [errW_none,errW_some] <;> rfl)|(simp only [← hji31];first|rfl|(simp [errW_none,errW_some] <;> rfl))|(simp [*,errW_none,errW_some] <;> rfl),HO398.out,HB.out⟩
        ·rw [if_neg c34] at H
         exact absurd H (by simp)
       ·rw [if_neg c33] at H
        exact absurd H (by simp)
      ·rw [if_neg c32] at H
       exact absurd H (by simp)
     ·rw [if_neg c30] at H
      have c30b0:(t385 == 1) = false:=beq_eq_false_iff_ne.mpr c30
      have c30b1:(t385 != 1) = true:=bne_iff_ne.mpr c30
      by_cases c38:t385 = 2
      ·rw [if_pos c38] at H
       have c38b0:(t385 == 2) = true:=beq_iff_eq.mpr c38
       have c38b1:(t385 != 2) = false:=bne_eq_false_iff_eq.mpr c38
       clear c38
       by_cases c39:x4_1.length < 17592186044416
       ·rw [if_pos c39] at H
        have LMc39:=aM c39
        clear c39
        obtain ⟨y399,hy399⟩:∃ y_:List Int,y_ = (x4_1 ++ [41]):=⟨_,rfl⟩
        replace H:(some y399) = some r:=by first|(rw [hy399];with_reducible exact H)|(have H2_:=(Option.bind_some _ _).symm.trans H;rw [hy399];with_reducible exact H2_)|(have H2_:=(Option.bind_some _ _).symm.trans H;with_reducible exact H2_)|with_reducible exact H|(rw [hy399];exact H)|exact H
        have Ny399:=aM hy399
        clear hy399
        obtain rfl:=Option.some.inj H
        go_wp2_with (first|((with_reducible refine gate_callee (f:=18) rfl ?_);refine goesL_ (some 29) rfl rfl Try.func18 (by kernel_rfl) rfl #[.pointer (some ⟨g371,0,none⟩),.int .i64 20] rfl (by (try simp only [sM,sC,sN]);first|done|rfl|(simp only [List.length_drop,List.length_take];rfl)) ?_;(with_reducible refine (spec_l01Next.calls g371 t368 x372001_1 x372002_1 20 t385 t386 t387 w _ ?side1 ?side2 A18.out).mono ?_);(case side1=>repeat (first|(with_reducible first|exact HI371.out|apply IsS57.alloc|apply IsS57.drewN|apply IsS57.drew|apply IsS57.set_1|apply IsS57.set_2)|exact HI371.out));(case side2=>repeat (first|(with_reducible first|exact HB.out|apply zA|apply zN|apply zD|refine zS ?_ (IsS57.ge HI371.out))|exact HB.out));rintro e w40 ⟨rfl,hi,hb,hk⟩;refine ⟨_,rfl,?_⟩;replace HO_4:=aM (Kd.R_mono (Kd.R_keep (IsS57.apart (show IsS57 w _ g371 t368 x372001_1 x372002_1 from HI371.out) HO_4.out (by decide)) hk (fun _ h=>h.2)) (fun _ h=>h.1));replace HB:=aM (hb);replace HI371:=aM (hi);(try clear hb);(try clear hb2);(try clear hk);(try clear hi))|((with_reducible refine gate_builtin (b:=.append) (xs:=#[.tmp 50,.tmp 51]) rfl ?_);at_builtin;refine Kd.R_append (Kd.int .i64) (w0:=w) w.heap.size rfl (.tmp 50) (.tmp 51) 31 2 (.int .i64 0) 8 rfl Try.underlying31 info2 rfl (by decide) (by omega) u4 x4_1 41 [.int .i64 41] (fun _=>True) (fun _=>False) rfl rfl ?aP (fun _ hk=>hk.elim) ?aF ?aO ?aB ?aS ?aL ?_;(case aP=>exact rfl);(case aB=>exact HB.out);(case aF=>exact (fun _ _=>trivial));(case aO=>exact HO_4.out);(case aS=>exact (below_size HB.out));(case aL=>have:=LMc39.out;omega);intro v400 w41 ho hb hg hat;rw [← Ny399.out] at ho;have n0_:=aM (IsS57.grown HI371.out hg (IsS57.own_ne HI371.out HO_4.out (by decide)));have n1_:=aM (hb);have n2_:=aM (ho);clear HI371;clear HB;clear HO_4;have HI371:=n0_;have HB:=n1_;have HO401:=n2_;clear n0_ n1_ n2_;clear ho hb hg hat))
        go_ret
        exact ⟨_,by first|rfl|(simp [errW_none,errW_some] <;> rfl)|(simp [*,errW_none,errW_some] <;> rfl),HO401.out,HB.out⟩
       ·rw [if_neg c39] at H
        exact absurd H (by simp)
      ·rw [if_neg c38] at H
       have c38b0:(t385 == 2) = false:=beq_eq_false_iff_ne.mpr c38
       have c38b1:(t385 != 2) = true:=bne_iff_ne.mpr c38
       obtain rfl:=Option.some.inj H
       go_wp2_with (first|((with_reducible refine gate_callee (f:=18) rfl ?_);refine goesL_ (some 29) rfl rfl Try.func18 (by kernel_rfl) rfl #[.pointer (some ⟨g371,0,none⟩),.int .i64 20] rfl (by (try simp only [sM,sC,sN]);first|done|rfl|(simp only [List.length_drop,List.length_take];rfl)) ?_;(with_reducible refine (spec_l01Next.calls g371 t368 x372001_1 x372002_1 20 t385 t386 t387 w _ ?side1 ?side2 A18.out).mono ?_);(case side1=>repeat (first|(with_reducible first|exact HI371.out|apply IsS57.alloc|apply IsS57.drewN|apply IsS57.drew|apply IsS57.set_1|apply IsS57.set_2)|exact HI371.out));(case side2=>repeat (first|(with_reducible first|exact HB.out|apply zA|apply zN|apply zD|refine zS ?_ (IsS57.ge HI371.out))|exact HB.out));rintro e w42 ⟨rfl,hi,hb,hk⟩;refine ⟨_,rfl,?_⟩;replace HO_4:=aM (Kd.R_mono (Kd.R_keep (IsS57.apart (show IsS57 w _ g371 t368 x372001_1 x372002_1 from HI371.out) HO_4.out (by decide)) hk (fun _ h=>h.2)) (fun _ h=>h.1));replace HB:=aM (hb);replace HI371:=aM (hi);(try clear hb);(try clear hb2);(try clear hk);(try clear hi)))
       go_ret
       exact ⟨_,by first|rfl|(simp [errW_none,errW_some] <;> rfl)|(simp [*,errW_none,errW_some] <;> rfl),HO_4.out,HB.out⟩
def impl_length_int64.f (l0:List Int):Option (Int):=some (l0.length:Int)
set_option maxHeartbeats 8000000 in
set_option maxRecDepth 100000 in
theorem impl_length_int64.calls (A0:Option Addr) (c0:Nat) (l0:List Int) (r:Int) (w:World) (hr0:Kd.C (Kd.int .i64) w A0 l0.length l0) (hc0:l0.length ≤ c0) (h:impl_length_int64.f l0 = some r) :
  Calls Try.prog 41 #[.slice A0 l0.length c0] w fun e w'=>e = .returned (.int .i64 r) ∧ Drawn0 w w':=by
 have HR0:=aM hr0
 have HC0:=aM hc0
 clear hr0 hc0
 have H:(some (l0.length:Int)) = some r:=h
 clear h
 obtain rfl:=Option.some.inj H
 go_enter Try.func41,Try.ntmps41
 go_wp2
 go_ret
 exact ⟨by first|rfl|(simp;done)|(simp [*];done),by repeat (first|exact Drawn0.refl _|apply Drawn0.step)⟩
mutual
def impl_isAddress.j0:Nat → List Int → Bool → Option (Bool)
 | 0,_,_=>none
 | k + 1,x0,x22=>if x22 = true then (some false) else (impl_isAddress.l0 k x0 1)
def impl_isAddress.l0:Nat → List Int → Int → Option (Bool)
 | 0,_,_=>none
 | k + 1,x0,x3=>if x3 < (x0.length:Int) then (if 0 ≤ x3 then (if 0 ≤ (wrap64 (x3 - 1)) then (if (wrap64 (x3 - 1)) < (x0.length:Int) then (if (rd x0 x3) ≤ (rd x0 (wrap64 (x3 - 1))) then (some false) else (impl_isAddress.l0 k x0 (wrap64 (x3 + 1)))) else (none)) else (none)) else (none)) else (some true)
end
def impl_isAddress.f (k:Nat) (l0:List Int):Option (Bool):=(impl_length_int64.f l0).bind fun t402=>((impl_within.f t402 1 20).bind fun t403=>(if t403 = true then (if 0 < (l0.length:Int) then (if (rd l0 0) = 1 then (if 0 ≤ (wrap64 ((l0.length:Int) - 1)) then (if (wrap64 ((l0.length:Int) - 1)) < (l0.length:Int) then (impl_isAddress.j0 k l0 (decide ((rd l0 (wrap64 ((l0.length:Int) - 1))) > 40))) else (none)) else (none)) else (impl_isAddress.j0 k l0 true)) else (none)) else (impl_isAddress.j0 k l0 true)))
theorem impl_isAddress.mono_l:∀ k,(∀ y0 y1,LeO (impl_isAddress.j0 k y0 y1) (impl_isAddress.j0 (k + 1) y0 y1)) ∧ (∀ y0 y1,LeO (impl_isAddress.l0 k y0 y1) (impl_isAddress.l0 (k + 1) y0 y1))
 | 0=>⟨fun _ _ r h=>by simp [impl_isAddress.j0] at h,fun _ _ r h=>by simp [impl_isAddress.l0] at h⟩
 | k + 1=>by
  obtain ⟨ih0,ih1⟩:=impl_isAddress.mono_l k
  refine ⟨?_,?_⟩
  ·intro y0 y1
   unfold impl_isAddress.j0
   repeat' first
   | (with_reducible exact ih0 _ _)
   | (with_reducible exact ih1 _ _)
   | (with_reducible exact LeO.refl _)
   | (with_reducible exact LeO.none _)
   | (with_reducible refine LeO.ite ?_ ?_)
   | (with_reducible refine LeO.bind ?_ (fun _=>?_))
   | exact ih0 _ _
   | exact ih1 _ _
   | exact LeO.none _
   | refine LeO.ite ?_ ?_
   | refine LeO.bind ?_ (fun _=>?_)
  ·intro y0 y1
   unfold impl_isAddress.l0
   repeat' first
   | (with_reducible exact ih0 _ _)
   | (with_reducible exact ih1 _ _)
   | (with_reducible exact LeO.refl _)
   | (with_reducible exact LeO.none _)
   | (with_reducible refine LeO.ite ?_ ?_)
   | (with_reducible refine LeO.bind ?_ (fun _=>?_))
   | exact ih0 _ _
   | exact ih1 _ _
   | exact LeO.none _
   | refine LeO.ite ?_ ?_
   | refine LeO.bind ?_ (fun _=>?_)
theorem impl_isAddress.mono:∀ a0 k,LeO (impl_isAddress.f k a0) (impl_isAddress.f (k + 1) a0):=by
 intro a0 k
 obtain ⟨ih0,ih1⟩:=impl_isAddress.mono_l k
 unfold impl_isAddress.f
 repeat' first
   | (with_reducible exact ih0 _ _)
   | (with_reducible exact ih1 _ _)
   | (with_reducible exact LeO.refl _)
   | (with_reducible exact LeO.none _)
   | (with_reducible refine LeO.ite ?_ ?_)
   | (with_reducible refine LeO.bind ?_ (fun _=>?_))
   | exact ih0 _ _
   | exact ih1 _ _
   | exact LeO.none _
   | refine LeO.ite ?_ ?_
   | refine LeO.bind ?_ (fun _=>?_)
set_option maxHeartbeats 8000000 in
set_option maxRecDepth 100000 in
theorem impl_isAddress.calls (k:Nat) (A0:Option Addr) (c0:Nat) (l0:List Int) (r:Bool) (w:World) (hr0:Kd.C (Kd.int .i64) w A0 l0.length l0) (hc0:l0.length ≤ c0) (h:impl_isAddress.f k l0 = some r) :
  Calls Try.prog 27 #[.slice A0 l0.length c0] w fun e w'=>e = .returned (.bool r) ∧ Drawn0 w w':=by
 have HR0:=aM hr0
 have HC0:=aM hc0
 clear hr0 hc0
 have H:((impl_length_int64.f l0).bind fun t402=>((impl_within.f t402 1 20).bind fun t403=>(if t403 = true then (if 0 < (l0.length:Int) then (if (rd l0 0) = 1 then (if 0 ≤ (wrap64 ((l0.length:Int) - 1)) then (if (wrap64 ((l0.length:Int) - 1)) < (l0.length:Int) then (impl_isAddress.j0 k l0 (decide ((rd l0 (wrap64 ((l0.length:Int) - 1))) > 40))) else (none)) else (none)) else (impl_isAddress.j0 k l0 true)) else (none)) else (impl_isAddress.j0 k l0 true)))) = some r:=h
 clear h
 have HC2:=aM H
 clear H
 go_enter Try.func27,Try.ntmps27
 go_upto_region 1 with (fail)
 repeat (go_quiet (fail);go_upto_region 1 with (fail))
 go_cut [22] (fun v22 wc=>∃ (kq:Nat) (x22_1:Bool),v22 = .bool x22_1 ∧ Aside0 (impl_isAddress.j0 kq l0 x22_1 = some r) ∧ Aside0 (kq ≤ k) ∧ Drawn0 w wc)
 case first =>
  have H:=HC2.out
  clear HC2
  replace H:=Option.bind_eq_some_iff.mp H
  obtain ⟨t402,A30,H⟩:=H
  replace H:((impl_within.f t402 1 20).bind fun t403=>(if t403 = true then (if 0 < (l0.length:Int) then (if (rd l0 0) = 1 then (if 0 ≤ (wrap64 ((l0.length:Int) - 1)) then (if (wrap64 ((l0.length:Int) - 1)) < (l0.length:Int) then (impl_isAddress.j0 k l0 (decide ((rd l0 (wrap64 ((l0.length:Int) - 1))) > 40))) else (none)) else (none)) else (impl_isAddress.j0 k l0 true)) else (none)) else (impl_isAddress.j0 k l0 true))) = some r:=H
  have A3:=aM A30
  clear A30
  replace H:=Option.bind_eq_some_iff.mp H
  obtain ⟨t403,A40,H⟩:=H
  replace H:(if t403 = true then (if 0 < (l0.length:Int) then (if (rd l0 0) = 1 then (if 0 ≤ (wrap64 ((l0.length:Int) - 1)) then (if (wrap64 ((l0.length:Int) - 1)) < (l0.length:Int) then (impl_isAddress.j0 k l0 (decide ((rd l0 (wrap64 ((l0.length:Int) - 1))) > 40))) else (none)) else (none)) else (impl_isAddress.j0 k l0 true)) else (none)) else (impl_isAddress.j0 k l0 true)) = some r:=H
  have A4:=aM A40
  clear A40
  by_cases c5:t403 = true
  ·subst c5
   have H1:(if 0 < (l0.length:Int) then (if (rd l0 0) = 1 then (if 0 ≤ (wrap64 ((l0.length:Int) - 1)) then (if (wrap64 ((l0.length:Int) - 1)) < (l0.length:Int) then (impl_isAddress.j0 k l0 (decide ((rd l0 (wrap64 ((l0.length:Int) - 1))) > 40))) else (none)) else (none)) else (impl_isAddress.j0 k l0 true)) else (none)) = some r:=by rw [if_pos rfl] at H;exact H
   clear H
   have H:=H1
   clear H1
   by_cases c6:0 < (l0.length:Int)
   ·rw [if_pos c6] at H
    have c6b0:decide (0 < (l0.length:Int)) = true:=decide_eq_true c6
    have c6b1:decide (0 < l0.length) = true:=decide_eq_true (by omega)
    clear c6
    (first|rw [c6b0]|(simp only [i64_w,i32_w];rw [c6b0])|skip)
    by_cases c7:(rd l0 0) = 1
    ·rw [if_pos c7] at H
     have c7b0:((rd l0 0) == 1) = true:=beq_iff_eq.mpr c7
     have c7b1:((rd l0 0) != 1) = false:=bne_eq_false_iff_eq.mpr c7
     clear c7
     obtain ⟨ji8,hji8⟩:∃ j_:Int,(wrap64 ((l0.length:Int) - 1)) = j_:=⟨_,rfl⟩
     replace H:(if 0 ≤ (ji8) then (if (ji8) < (l0.length:Int) then (impl_isAddress.j0 k l0 (decide ((rd l0 (ji8)) > 40))) else (none)) else (none)) = some r:=by first|(rw [hji8] at H;exact H)|(simp only [hji8] at H ⊢;exact H)
     (try rw [hji8] at A3)
     (try rw [hji8] at A4)
     have hji8w:(IntKind.i64.wrap ((l0.length:Int) - 1)) = ji8:=(i64_w _).trans hji8
     by_cases c9:0 ≤ (ji8)
     ·rw [if_pos c9] at H
      have c9b0:decide (0 ≤ (ji8)) = true:=decide_eq_true c9
      clear c9
      by_cases c10:(ji8) < (l0.length:Int)
      ·rw [if_pos c10] at H
       have c10b0:decide ((ji8) < (l0.length:Int)) = true:=decide_eq_true c10
       clear c10
       have H':=aM H
       clear H
       go_wp2_with (first|(go_at_call 41;(with_reducible refine (impl_length_int64.calls _ _ l0 t402 _ ?side1 ?side2 A3.out).mono ?_);(case side1=>repeat (first|exact HR0.out|(with_reducible refine cA ?_ _)|(with_reducible refine cN ?_ _)|(with_reducible refine cD ?_)));(case side2=>exact HC0.out);rintro e w' ⟨rfl,⟨nd,rfl⟩⟩;(try first|exact ⟨rfl,_,World.drewN_drewN _ _ _⟩|exact ⟨rfl,_,Eq.trans (World.drewN_drewN _ _ _) (congrArg (World.drewN _) (Nat.add_assoc _ _ _))⟩))|(go_at_call 20;(with_reducible refine (impl_within.calls t402 1 20 true _ A4.out).mono ?_);rintro e w' ⟨rfl,⟨nd,rfl⟩⟩;(try first|exact ⟨rfl,_,World.drewN_drewN _ _ _⟩|exact ⟨rfl,_,Eq.trans (World.drewN_drewN _ _ _) (congrArg (World.drewN _) (Nat.add_assoc _ _ _))⟩);have p404:0 ≤ (0:Int):=(by omega);have q404:0 < (l0.length:Int):=of_decide_eq_true (by first|(with_reducible assumption)|assumption);obtain ⟨ad404,e404,hx404_0⟩:=Kd.at_int HR0.out 0 p404 q404;cases e404;have qi404:(0 < l0.length) = True:=eq_true (by omega);(try rw [show ((0:Int)).toNat = 0 from rfl] at hx404_0);(try rw [Addr.add_zero'] at hx404_0);replace p404:=eq_true p404;replace q404:=eq_true q404;have p405:0 ≤ ((ji8):Int):=of_decide_eq_true (by first|(with_reducible assumption)|assumption);have q405:(ji8) < (l0.length:Int):=of_decide_eq_true (by first|(with_reducible assumption)|assumption);obtain ⟨ad405,e405,hx405_0⟩:=Kd.at_int HR0.out (ji8) p405 q405;obtain rfl:ad404 = ad405:=(by injection e405);replace p405:=eq_true p405;replace q405:=eq_true q405))
       repeat (go_quiet (first|(go_at_call 41;(with_reducible refine (impl_length_int64.calls _ _ l0 t402 _ ?side1 ?side2 A3.out).mono ?_);(case side1=>repeat (first|exact HR0.out|(with_reducible refine cA ?_ _)|(with_reducible refine cN ?_ _)|(with_reducible refine cD ?_)));(case side2=>exact HC0.out);rintro e w' ⟨rfl,⟨nd,rfl⟩⟩;(try first|exact ⟨rfl,_,World.drewN_drewN _ _ _⟩|exact ⟨rfl,_,Eq.trans (World.drewN_drewN _ _ _) (congrArg (World.drewN _) (Nat.add_assoc _ _ _))⟩))|(go_at_call 20;(with_reducible refine (impl_within.calls t402 1 20 true _ A4.out).mono ?_);rintro e w' ⟨rfl,⟨nd,rfl⟩⟩;(try first|exact ⟨rfl,_,World.drewN_drewN _ _ _⟩|exact ⟨rfl,_,Eq.trans (World.drewN_drewN _ _ _) (congrArg (World.drewN _) (Nat.add_assoc _ _ _))⟩);have p404:0 ≤ (0:Int):=(by omega);have q404:0 < (l0.length:Int):=of_decide_eq_true (by first|(with_reducible assumption)|assumption);obtain ⟨ad404,e404,hx404_0⟩:=Kd.at_int HR0.out 0 p404 q404;cases e404;have qi404:(0 < l0.length) = True:=eq_true (by omega);(try rw [show ((0:Int)).toNat = 0 from rfl] at hx404_0);(try rw [Addr.add_zero'] at hx404_0);replace p404:=eq_true p404;replace q404:=eq_true q404;have p405:0 ≤ ((ji8):Int):=of_decide_eq_true (by first|(with_reducible assumption)|assumption);have q405:(ji8) < (l0.length:Int):=of_decide_eq_true (by first|(with_reducible assumption)|assumption);obtain ⟨ad405,e405,hx405_0⟩:=Kd.at_int HR0.out (ji8) p405 q405;obtain rfl:ad404 = ad405:=(by injection e405);replace p405:=eq_true p405;replace q405:=eq_true q405));try go_wp2_with (first|(go_at_call 41;(with_reducible refine (impl_length_int64.calls _ _ l0 t402 _ ?side1 ?side2 A3.out).mono ?_);(case side1=>repeat (first|exact HR0.out|(with_reducible refine cA ?_ _)|(with_reducible refine cN ?_ _)|(with_reducible refine cD ?_)));(case side2=>exact HC0.out);rintro e w' ⟨rfl,⟨nd,rfl⟩⟩;(try first|exact ⟨rfl,_,World.drewN_drewN _ _ _⟩|exact ⟨rfl,_,Eq.trans (World.drewN_drewN _ _ _) (congrArg (World.drewN _) (Nat.add_assoc _ _ _))⟩))|(go_at_call 20;(with_reducible refine (impl_within.calls t402 1 20 true _ A4.out).mono ?_);rintro e w' ⟨rfl,⟨nd,rfl⟩⟩;(try first|exact ⟨rfl,_,World.drewN_drewN _ _ _⟩|exact ⟨rfl,_,Eq.trans (World.drewN_drewN _ _ _) (congrArg (World.drewN _) (Nat.add_assoc _ _ _))⟩);have p404:0 ≤ (0:Int):=(by omega);have q404:0 < (l0.length:Int):=of_decide_eq_true (by first|(with_reducible assumption)|assumption);obtain ⟨ad404,e404,hx404_0⟩:=Kd.at_int HR0.out 0 p404 q404;cases e404;have qi404:(0 < l0.length) = True:=eq_true (by omega);(try rw [show ((0:Int)).toNat = 0 from rfl] at hx404_0);(try rw [Addr.add_zero'] at hx404_0);replace p404:=eq_true p404;replace q404:=eq_true q404;have p405:0 ≤ ((ji8):Int):=of_decide_eq_true (by first|(with_reducible assumption)|assumption);have q405:(ji8) < (l0.length:Int):=of_decide_eq_true (by first|(with_reducible assumption)|assumption);obtain ⟨ad405,e405,hx405_0⟩:=Kd.at_int HR0.out (ji8) p405 q405;obtain rfl:ad404 = ad405:=(by injection e405);replace p405:=eq_true p405;replace q405:=eq_true q405)))
       go_meet
       case rel=>exact ⟨_,(decide ((rd l0 (ji8)) > 40)),(by first|rfl|(simp;done)|(simp only [← hji8] <;> (first|rfl|simp))|(simp [*];done)),H',⟨by first|omega|exact Nat.le_refl _⟩,by repeat (first|exact Drawn0.refl _|apply Drawn0.step)⟩
      ·rw [if_neg c10] at H
       exact absurd H (by simp)
     ·rw [if_neg c9] at H
      exact absurd H (by simp)
    ·rw [if_neg c7] at H
     have c7b0:((rd l0 0) == 1) = false:=beq_eq_false_iff_ne.mpr c7
     have c7b1:((rd l0 0) != 1) = true:=bne_iff_ne.mpr c7
     have H':=aM H
     clear H
     go_wp2_with (first|(go_at_call 41;(with_reducible refine (impl_length_int64.calls _ _ l0 t402 _ ?side1 ?side2 A3.out).mono ?_);(case side1=>repeat (first|exact HR0.out|(with_reducible refine cA ?_ _)|(with_reducible refine cN ?_ _)|(with_reducible refine cD ?_)));(case side2=>exact HC0.out);rintro e w' ⟨rfl,⟨nd,rfl⟩⟩;(try first|exact ⟨rfl,_,World.drewN_drewN _ _ _⟩|exact ⟨rfl,_,Eq.trans (World.drewN_drewN _ _ _) (congrArg (World.drewN _) (Nat.add_assoc _ _ _))⟩))|(go_at_call 20;(with_reducible refine (impl_within.calls t402 1 20 true _ A4.out).mono ?_);rintro e w' ⟨rfl,⟨nd,rfl⟩⟩;(try first|exact ⟨rfl,_,World.drewN_drewN _ _ _⟩|exact ⟨rfl,_,Eq.trans (World.drewN_drewN _ _ _) (congrArg (World.drewN _) (Nat.add_assoc _ _ _))⟩);have p404:0 ≤ (0:Int):=(by omega);have q404:0 < (l0.length:Int):=of_decide_eq_true (by first|(with_reducible assumption)|assumption);obtain ⟨ad404,e404,hx404_0⟩:=Kd.at_int HR0.out 0 p404 q404;cases e404;have qi404:(0 < l0.length) = True:=eq_true (by omega);(try rw [show ((0:Int)).toNat = 0 from rfl] at hx404_0);(try rw [Addr.add_zero'] at hx404_0);replace p404:=eq_true p404;replace q404:=eq_true q404))
     repeat (go_quiet (first|(go_at_call 41;(with_reducible refine (impl_length_int64.calls _ _ l0 t402 _ ?side1 ?side2 A3.out).mono ?_);(case side1=>repeat (first|exact HR0.out|(with_reducible refine cA ?_ _)|(with_reducible refine cN ?_ _)|(with_reducible refine cD ?_)));(case side2=>exact HC0.out);rintro e w' ⟨rfl,⟨nd,rfl⟩⟩;(try first|exact ⟨rfl,_,World.drewN_drewN _ _ _⟩|exact ⟨rfl,_,Eq.trans (World.drewN_drewN _ _ _) (congrArg (World.drewN _) (Nat.add_assoc _ _ _))⟩))|(go_at_call 20;(with_reducible refine (impl_within.calls t402 1 20 true _ A4.out).mono ?_);rintro e w' ⟨rfl,⟨nd,rfl⟩⟩;(try first|exact ⟨rfl,_,World.drewN_drewN _ _ _⟩|exact ⟨rfl,_,Eq.trans (World.drewN_drewN _ _ _) (congrArg (World.drewN _) (Nat.add_assoc _ _ _))⟩);have p404:0 ≤ (0:Int):=(by omega);have q404:0 < (l0.length:Int):=of_decide_eq_true (by first|(with_reducible assumption)|assumption);obtain ⟨ad404,e404,hx404_0⟩:=Kd.at_int HR0.out 0 p404 q404;cases e404;have qi404:(0 < l0.length) = True:=eq_true (by omega);(try rw [show ((0:Int)).toNat = 0 from rfl] at hx404_0);(try rw [Addr.add_zero'] at hx404_0);replace p404:=eq_true p404;replace q404:=eq_true q404));try go_wp2_with (first|(go_at_call 41;(with_reducible refine (impl_length_int64.calls _ _ l0 t402 _ ?side1 ?side2 A3.out).mono ?_);(case side1=>repeat (first|exact HR0.out|(with_reducible refine cA ?_ _)|(with_reducible refine cN ?_ _)|(with_reducible refine cD ?_)));(case side2=>exact HC0.out);rintro e w' ⟨rfl,⟨nd,rfl⟩⟩;(try first|exact ⟨rfl,_,World.drewN_drewN _ _ _⟩|exact ⟨rfl,_,Eq.trans (World.drewN_drewN _ _ _) (congrArg (World.drewN _) (Nat.add_assoc _ _ _))⟩))|(go_at_call 20;(with_reducible refine (impl_within.calls t402 1 20 true _ A4.out).mono ?_);rintro e w' ⟨rfl,⟨nd,rfl⟩⟩;(try first|exact ⟨rfl,_,World.drewN_drewN _ _ _⟩|exact ⟨rfl,_,Eq.trans (World.drewN_drewN _ _ _) (congrArg (World.drewN _) (Nat.add_assoc _ _ _))⟩);have p404:0 ≤ (0:Int):=(by omega);have q404:0 < (l0.length:Int):=of_decide_eq_true (by first|(with_reducible assumption)|assumption);obtain ⟨ad404,e404,hx404_0⟩:=Kd.at_int HR0.out 0 p404 q404;cases e404;have qi404:(0 < l0.length) = True:=eq_true (by omega);(try rw [show ((0:Int)).toNat = 0 from rfl] at hx404_0);(try rw [Addr.add_zero'] at hx404_0);replace p404:=eq_true p404;replace q404:=eq_true q404)))
     go_meet
     case rel=>exact ⟨_,(true),(by first|rfl|(simp;done)|(simp [*];done)),H',⟨by first|omega|exact Nat.le_refl _⟩,by repeat (first|exact Drawn0.refl _|apply Drawn0.step)⟩
   ·rw [if_neg c6] at H
    exact absurd H (by simp)
  ·replace c5:=Bool.eq_false_iff.mpr c5
   subst c5
   have H1:(impl_isAddress.j0 k l0 true) = some r:=by rw [if_neg (show ¬ (false = true) by decide)] at H;exact H
   clear H
   have H:=H1
   clear H1
   have H':=aM H
   clear H
   go_wp2_with (first|(go_at_call 41;(with_reducible refine (impl_length_int64.calls _ _ l0 t402 _ ?side1 ?side2 A3.out).mono ?_);(case side1=>repeat (first|exact HR0.out|(with_reducible refine cA ?_ _)|(with_reducible refine cN ?_ _)|(with_reducible refine cD ?_)));(case side2=>exact HC0.out);rintro e w' ⟨rfl,⟨nd,rfl⟩⟩;(try first|exact ⟨rfl,_,World.drewN_drewN _ _ _⟩|exact ⟨rfl,_,Eq.trans (World.drewN_drewN _ _ _) (congrArg (World.drewN _) (Nat.add_assoc _ _ _))⟩))|(go_at_call 20;(with_reducible refine (impl_within.calls t402 1 20 false _ A4.out).mono ?_);rintro e w' ⟨rfl,⟨nd,rfl⟩⟩;(try first|exact ⟨rfl,_,World.drewN_drewN _ _ _⟩|exact ⟨rfl,_,Eq.trans (World.drewN_drewN _ _ _) (congrArg (World.drewN _) (Nat.add_assoc _ _ _))⟩)))
   repeat (go_quiet (first|(go_at_call 41;(with_reducible refine (impl_length_int64.calls _ _ l0 t402 _ ?side1 ?side2 A3.out).mono ?_);(case side1=>repeat (first|exact HR0.out|(with_reducible refine cA ?_ _)|(with_reducible refine cN ?_ _)|(with_reducible refine cD ?_)));(case side2=>exact HC0.out);rintro e w' ⟨rfl,⟨nd,rfl⟩⟩;(try first|exact ⟨rfl,_,World.drewN_drewN _ _ _⟩|exact ⟨rfl,_,Eq.trans (World.drewN_drewN _ _ _) (congrArg (World.drewN _) (Nat.add_assoc _ _ _))⟩))|(go_at_call 20;(with_reducible refine (impl_within.calls t402 1 20 false _ A4.out).mono ?_);rintro e w' ⟨rfl,⟨nd,rfl⟩⟩;(try first|exact ⟨rfl,_,World.drewN_drewN _ _ _⟩|exact ⟨rfl,_,Eq.trans (World.drewN_drewN _ _ _) (congrArg (World.drewN _) (Nat.add_assoc _ _ _))⟩)));try go_wp2_with (first|(go_at_call 41;(with_reducible refine (impl_length_int64.calls _ _ l0 t402 _ ?side1 ?side2 A3.out).mono ?_);(case side1=>repeat (first|exact HR0.out|(with_reducible refine cA ?_ _)|(with_reducible refine cN ?_ _)|(with_reducible refine cD ?_)));(case side2=>exact HC0.out);rintro e w' ⟨rfl,⟨nd,rfl⟩⟩;(try first|exact ⟨rfl,_,World.drewN_drewN _ _ _⟩|exact ⟨rfl,_,Eq.trans (World.drewN_drewN _ _ _) (congrArg (World.drewN _) (Nat.add_assoc _ _ _))⟩))|(go_at_call 20;(with_reducible refine (impl_within.calls t402 1 20 false _ A4.out).mono ?_);rintro e w' ⟨rfl,⟨nd,rfl⟩⟩;(try first|exact ⟨rfl,_,World.drewN_drewN _ _ _⟩|exact ⟨rfl,_,Eq.trans (World.drewN_drewN _ _ _) (congrArg (World.drewN _) (Nat.add_assoc _ _ _))⟩))))
   go_meet
   case rel=>exact ⟨_,(true),(by first|rfl|(simp;done)|(simp [*];done)),H',⟨by first|omega|exact Nat.le_refl _⟩,by repeat (first|exact Drawn0.refl _|apply Drawn0.step)⟩
 case rest =>
  clear HC2
  try clear c1
  try clear c2
  try clear p2
  try clear p4
  try clear q4
  try clear hx4
  try clear qi4
  try clear c5
  try clear c6
  try clear c6b0
  try clear c6b1
  try clear p6
  try clear c7
  try clear c7b0
  try clear c7b1
  try clear c9
  try clear c9b0
  try clear c10
  try clear c10b0
  try clear hx404_0
  try clear hx405_0
  try clear p404
  try clear p405
  try clear q404
  try clear q405
  obtain ⟨kq,x22_1,rfl,HA,HJ1,⟨mc1,rfl⟩⟩:=hcut
  cases kq with
  | zero=>exact absurd HA.out (by simp [impl_isAddress.j0])
  | succ kj1 =>
   have H:=HA.out
   clear HA
   simp only [impl_isAddress.j0] at H
   by_cases c11:x22_1 = true
   ·subst c11
    have H1:(some false) = some r:=by rw [if_pos rfl] at H;exact H
    clear H
    have H:=H1
    clear H1
    obtain rfl:=Option.some.inj H
    go_wp2
    repeat (go_quiet (fail);try go_wp2)
    go_ret
    exact ⟨by first|rfl|(simp;done)|(simp [*];done),by repeat (first|exact Drawn0.refl _|apply Drawn0.step)⟩
   ·replace c11:=Bool.eq_false_iff.mpr c11
    subst c11
    have H1:(impl_isAddress.l0 kj1 l0 1) = some r:=by rw [if_neg (show ¬ (false = true) by decide)] at H;exact H
    clear H
    have H:=H1
    clear H1
    have H':=aM H
    clear H
    go_wp2
    repeat (go_quiet (fail);try go_wp2)
    go_loopg [3] kj1 (fun kq v3 w'=>∃ (x3_2:Int),v3 = .int .i64 x3_2 ∧ Aside0 (impl_isAddress.l0 kq l0 x3_2 = some r) ∧ Aside0 (kq ≤ kj1) ∧ Drawn0 w w')
    case atStart=>exact ⟨(1),(by first|rfl|(simp;done)|(simp [*];done)),H',⟨Nat.le_refl _⟩,by repeat (first|exact Drawn0.refl _|apply Drawn0.step)⟩
    case round =>
     clear H'
     try clear c1
     try clear c2
     try clear p2
     try clear p4
     try clear q4
     try clear hx4
     try clear qi4
     try clear c5
     try clear c6
     try clear c6b0
     try clear c6b1
     try clear p6
     try clear c7
     try clear c7b0
     try clear c7b1
     try clear c9
     try clear c9b0
     try clear c10
     try clear c10b0
     try clear c11
     try clear hx404_0
     try clear hx405_0
     try clear p2
     try clear p4
     try clear p404
     try clear p405
     try clear p6
     try clear q4
     try clear q404
     try clear q405
     obtain ⟨x3_2,rfl,HA,HK2,⟨m2,rfl⟩⟩:=hrel
     cases gk with
     | zero=>exact absurd HA.out (by simp [impl_isAddress.l0])
     | succ k2 =>
      have H:=HA.out
      clear HA
      simp only [impl_isAddress.l0] at H
      by_cases c12:x3_2 < (l0.length:Int)
      ·rw [if_pos c12] at H
       have c12b0:decide (x3_2 < (l0.length:Int)) = true:=decide_eq_true c12
       clear c12
       by_cases c13:0 ≤ x3_2
       ·rw [if_pos c13] at H
        have c13b0:decide (0 ≤ x3_2) = true:=decide_eq_true c13
        clear c13
        obtain ⟨ji14,hji14⟩:∃ j_:Int,(wrap64 (x3_2 - 1)) = j_:=⟨_,rfl⟩
        replace H:(if 0 ≤ (ji14) then (if (ji14) < (l0.length:Int) then (if (rd l0 x3_2) ≤ (rd l0 (ji14)) then (some false) else (impl_isAddress.l0 k2 l0 (wrap64 (x3_2 + 1)))) else (none)) else (none)) = some r:=by first|(rw [hji14] at H;exact H)|(simp only [hji14] at H ⊢;exact H)
        have hji14w:(IntKind.i64.wrap (x3_2 - 1)) = ji14:=(i64_w _).trans hji14
        by_cases c15:0 ≤ (ji14)
        ·rw [if_pos c15] at H
         have c15b0:decide (0 ≤ (ji14)) = true:=decide_eq_true c15
         clear c15
         by_cases c16:(ji14) < (l0.length:Int)
         ·rw [if_pos c16] at H
          have c16b0:decide ((ji14) < (l0.length:Int)) = true:=decide_eq_true c16
          clear c16
          by_cases c17:(rd l0 x3_2) ≤ (rd l0 (ji14))
          ·rw [if_pos c17] at H
           have c17b0:decide ((rd l0 x3_2) ≤ (rd l0 (ji14))) = true:=decide_eq_true c17
           clear c17
           obtain rfl:=Option.some.inj H
           have p406:0 ≤ (x3_2:Int):=of_decide_eq_true (by first|(with_reducible assumption)|assumption)
           have q406:x3_2 < (l0.length:Int):=of_decide_eq_true (by first|(with_reducible assumption)|assumption)
           obtain ⟨ad406,e406,hx406_0⟩:=Kd.at_int HR0.out x3_2 p406 q406
           cases e406
           replace p406:=eq_true p406
           replace q406:=eq_true q406
           have p407:0 ≤ ((ji14):Int):=of_decide_eq_true (by first|(with_reducible assumption)|assumption)
           have q407:(ji14) < (l0.length:Int):=of_decide_eq_true (by first|(with_reducible assumption)|assumption)
           obtain ⟨ad407,e407,hx407_0⟩:=Kd.at_int HR0.out (ji14) p407 q407
           obtain rfl:ad406 = ad407:=(by injection e407)
           replace p407:=eq_true p407
           replace q407:=eq_true q407
           go_wp2
           repeat (go_quiet (fail);try go_wp2)
           go_ret
           exact ⟨by first|rfl|(simp;done)|(simp only [← hji14] <;> (first|rfl|simp))|(simp [*];done),by repeat (first|exact Drawn0.refl _|apply Drawn0.step)⟩
          ·rw [if_neg c17] at H
           have c17b0:decide ((rd l0 x3_2) ≤ (rd l0 (ji14))) = false:=decide_eq_false c17
           clear c17
           have H':=aM H
           clear H
           have p406:0 ≤ (x3_2:Int):=of_decide_eq_true (by first|(with_reducible assumption)|assumption)
           have q406:x3_2 < (l0.length:Int):=of_decide_eq_true (by first|(with_reducible assumption)|assumption)
           obtain ⟨ad406,e406,hx406_0⟩:=Kd.at_int HR0.out x3_2 p406 q406
           cases e406
           replace p406:=eq_true p406
           replace q406:=eq_true q406
           have p407:0 ≤ ((ji14):Int):=of_decide_eq_true (by first|(with_reducible assumption)|assumption)
           have q407:(ji14) < (l0.length:Int):=of_decide_eq_true (by first|(with_reducible assumption)|assumption)
           obtain ⟨ad407,e407,hx407_0⟩:=Kd.at_int HR0.out (ji14) p407 q407
           obtain rfl:ad406 = ad407:=(by injection e407)
           replace p407:=eq_true p407
           replace q407:=eq_true q407
           go_wp2
           repeat (go_quiet (fail);try go_wp2)
           go_roundg k2
           case measure=>have:=HJ1.out;have:=HK2.out;omega
           case rel=>exact ⟨(wrap64 (x3_2 + 1)),(by first|rfl|(simp;done)|(simp [*];done)),H',⟨by have:=HJ1.out;have:=HK2.out;omega⟩,by repeat (first|exact Drawn0.refl _|apply Drawn0.step)⟩
         ·rw [if_neg c16] at H
          exact absurd H (by simp)
        ·rw [if_neg c15] at H
         exact absurd H (by simp)
       ·rw [if_neg c13] at H
        exact absurd H (by simp)
      ·rw [if_neg c12] at H
       have c12b0:decide (x3_2 < (l0.length:Int)) = false:=decide_eq_false c12
       clear c12
       obtain rfl:=Option.some.inj H
       go_wp2
       repeat (go_quiet (fail);try go_wp2)
       go_ret
       exact ⟨by first|rfl|(simp;done)|(simp [*];done),by repeat (first|exact Drawn0.refl _|apply Drawn0.step)⟩
def impl_repeated.f (a0:ByteArray) (a1:Int):Option (ByteArray × Int):=if (a0.size:Int) = 0 then (none) else ((strings_Repeat.f a0 (wrap64 ((wrap64 (Int.tdiv a1 (a0.size:Int))) + 1))).bind fun t408=>(if 0 ≤ (wrap64 (a1 - 1)) then (if (wrap64 (a1 - 1)) ≤ (t408.size:Int) then (if (wrap64 (a1 - 1)) < (t408.size:Int) then (some (t408.extract 0 ((wrap64 (a1 - 1)):Int).toNat,bt t408 (wrap64 (a1 - 1)))) else (none)) else (none)) else (none)))
set_option maxHeartbeats 8000000 in
set_option maxRecDepth 100000 in
theorem impl_repeated.calls (a0:ByteArray) (a1:Int) (r1:ByteArray) (r2:Int) (w:World) (h:impl_repeated.f a0 a1 = some (r1,r2)) :
  Calls Try.prog 28 #[.string a0,.int .i64 a1] w fun e w'=>e = .returned (.tuple #[.string r1,.int .u8 r2]) ∧ Below w.heap.size w w':=by
 have HB:=aM (Below.refl w.heap.size w)
 have H:(if (a0.size:Int) = 0 then (none) else ((strings_Repeat.f a0 (wrap64 ((wrap64 (Int.tdiv a1 (a0.size:Int))) + 1))).bind fun t408=>(if 0 ≤ (wrap64 (a1 - 1)) then (if (wrap64 (a1 - 1)) ≤ (t408.size:Int) then (if (wrap64 (a1 - 1)) < (t408.size:Int) then (some (t408.extract 0 ((wrap64 (a1 - 1)):Int).toNat,bt t408 (wrap64 (a1 - 1)))) else (none)) else (none)) else (none)))) = some (r1,r2):=h
 clear h
 by_cases c3:(a0.size:Int) = 0
 ·rw [if_pos c3] at H
  exact absurd H (by simp)
 ·rw [if_neg c3] at H
  have c3b0:((a0.size:Int) == 0) = false:=beq_eq_false_iff_ne.mpr c3
  have c3b1:((a0.size:Int) != 0) = true:=bne_iff_ne.mpr c3
  replace H:=Option.bind_eq_some_iff.mp H
  obtain ⟨t408,A40,H⟩:=H
  replace H:(if 0 ≤ (wrap64 (a1 - 1)) then (if (wrap64 (a1 - 1)) ≤ (t408.size:Int) then (if (wrap64 (a1 - 1)) < (t408.size:Int) then (some (t408.extract 0 ((wrap64 (a1 - 1)):Int).toNat,bt t408 (wrap64 (a1 - 1)))) else (none)) else (none)) else (none)) = some (r1,r2):=H
  have A4:=aM A40
  clear A40
  obtain ⟨ji5,hji5⟩:∃ j_:Int,(wrap64 (a1 - 1)) = j_:=⟨_,rfl⟩
  replace H:(if 0 ≤ (ji5) then (if (ji5) ≤ (t408.size:Int) then (if (ji5) < (t408.size:Int) then (some (t408.extract 0 ((ji5):Int).toNat,bt t408 (ji5))) else (none)) else (none)) else (none)) = some (r1,r2):=by first|(rw [hji5] at H;exact H)|(simp only [hji5] at H ⊢;exact H)
  (try rw [hji5] at A4)
  have hji5w:(IntKind.i64.wrap (a1 - 1)) = ji5:=(i64_w _).trans hji5
  by_cases c6:0 ≤ (ji5)
  ·rw [if_pos c6] at H
   have c6b0:=eq_true c6
   have c6b1:decide (0 ≤ (ji5)) = true:=decide_eq_true c6
   clear c6
   by_cases c7:(ji5) ≤ (t408.size:Int)
   ·rw [if_pos c7] at H
    have c7b0:=eq_true c7
    have c7b1:decide ((ji5) ≤ (t408.size:Int)) = true:=decide_eq_true c7
    clear c7
    by_cases c8:(ji5) < (t408.size:Int)
    ·rw [if_pos c8] at H
     have c8b0:decide ((ji5) < (t408.size:Int)) = true:=decide_eq_true c8
     clear c8
     simp only [Option.some.injEq,Prod.mk.injEq] at H
     obtain ⟨rfl,rfl⟩:=H
     go_enter Try.func28,Try.ntmps28
     go_wp2_with (first|(go_at_call 42;(with_reducible refine (strings_Repeat.calls a0 (wrap64 ((wrap64 (Int.tdiv a1 (a0.size:Int))) + 1)) t408 _ A4.out).mono ?_);rintro e w10 ⟨rfl,hb⟩;replace HB:=aM (below_step (by repeat (first|(with_reducible first|exact HB.out|apply zA|apply zN|apply zD)|exact HB.out)) hb);(try clear hb);(try clear hb2);(try clear hk);(try clear hi);have p9:0 ≤ ((ji5):Int):=of_decide_eq_true (by first|(with_reducible assumption)|assumption);have q9:(ji5) < (t408.size:Int):=of_decide_eq_true (by first|(with_reducible assumption)|assumption);have hx9:=bt_at t408 (ji5);replace p9:=eq_true p9;replace q9:=eq_true q9))
     repeat (go_quiet (first|(go_at_call 42;(with_reducible refine (strings_Repeat.calls a0 (wrap64 ((wrap64 (Int.tdiv a1 (a0.size:Int))) + 1)) t408 _ A4.out).mono ?_);rintro e w10 ⟨rfl,hb⟩;replace HB:=aM (below_step (by repeat (first|(with_reducible first|exact HB.out|apply zA|apply zN|apply zD)|exact HB.out)) hb);(try clear hb);(try clear hb2);(try clear hk);(try clear hi);have p9:0 ≤ ((ji5):Int):=of_decide_eq_true (by first|(with_reducible assumption)|assumption);have q9:(ji5) < (t408.size:Int):=of_decide_eq_true (by first|(with_reducible assumption)|assumption);have hx9:=bt_at t408 (ji5);replace p9:=eq_true p9;replace q9:=eq_true q9));try go_wp2_with (first|(go_at_call 42;(with_reducible refine (strings_Repeat.calls a0 (wrap64 ((wrap64 (Int.tdiv a1 (a0.size:Int))) + 1)) t408 _ A4.out).mono ?_);rintro e w10 ⟨rfl,hb⟩;replace HB:=aM (below_step (by repeat (first|(with_reducible first|exact HB.out|apply zA|apply zN|apply zD)|exact HB.out)) hb);(try clear hb);(try clear hb2);(try clear hk);(try clear hi);have p9:0 ≤ ((ji5):Int):=of_decide_eq_true (by first|(with_reducible assumption)|assumption);have q9:(ji5) < (t408.size:Int):=of_decide_eq_true (by first|(with_reducible assumption)|assumption);have hx9:=bt_at t408 (ji5);replace p9:=eq_true p9;replace q9:=eq_true q9)))
     go_ret2
     exact ⟨by first|rfl|(simp [errW_none,errW_some] <;> rfl)|(simp only [← hji5];first|rfl|(simp [errW_none,errW_some] <;> rfl))|(simp [*,errW_none,errW_some] <;> rfl),by repeat (first|(with_reducible first|exact HB.out|apply zA|apply zN|apply zD)|exact HB.out)⟩
    ·rw [if_neg c8] at H
     exact absurd H (by simp)
   ·rw [if_neg c7] at H
    exact absurd H (by simp)
  ·rw [if_neg c6] at H
   exact absurd H (by simp)
def impl_SequenceOfAddress.l0:Nat → List Int → ByteArray → List Int → Int → Int → Option (ByteArray × ByteArray × Int)
 | 0,_,_,_,_,_=>none
 | k + 1,x0,x4,x13,x14,x15=>if x15 < x14 then (if 0 ≤ x15 then (if x15 < (x13.length:Int) then (if (x0.length:Int) = 1 then (impl_SequenceOfAddress.l0 k x0 x4 x13 x14 (wrap64 (x15 + 1))) else (if x15 = 0 then (impl_SequenceOfAddress.l0 k x0 (⟨#[49]⟩:ByteArray) x13 x14 (wrap64 (x15 + 1))) else ((impl_repeated.f x4 (rd x13 x15)).bind fun bt412=>(if x15 = (wrap64 ((x0.length:Int) - 1)) then (if bt412.1.size + 1 ≤ 9223372036854775807 then (impl_SequenceOfAddress.l0 k x0 (bt412.1 ++ (⟨#[42]⟩:ByteArray)) x13 x14 (wrap64 (x15 + 1))) else (none)) else (if bt412.2 = 48 then (if bt412.1.size + 1 ≤ 9223372036854775807 then (impl_SequenceOfAddress.l0 k x0 (bt412.1 ++ (⟨#[49]⟩:ByteArray)) x13 x14 (wrap64 (x15 + 1))) else (none)) else (if bt412.1.size + 1 ≤ 9223372036854775807 then (impl_SequenceOfAddress.l0 k x0 (bt412.1 ++ (⟨#[48]⟩:ByteArray)) x13 x14 (wrap64 (x15 + 1))) else (none))))))) else (none)) else (none)) else (some ((⟨#[]⟩:ByteArray),x4,0))
def impl_SequenceOfAddress.f (k:Nat) (l0:List Int):Option (ByteArray × ByteArray × Int):=(impl_isAddress.f k l0).bind fun t410=>(if t410 = true then (impl_SequenceOfAddress.l0 k l0 (⟨#[42]⟩:ByteArray) l0 (l0.length:Int) 0) else (some ((⟨#[]⟩:ByteArray),(⟨#[]⟩:ByteArray),2)))
theorem impl_SequenceOfAddress.mono_l:∀ k,(∀ y0 y1 y2 y3 y4,LeO (impl_SequenceOfAddress.l0 k y0 y1 y2 y3 y4) (impl_SequenceOfAddress.l0 (k + 1) y0 y1 y2 y3 y4))
 | 0=>fun _ _ _ _ _ r h=>by simp [impl_SequenceOfAddress.l0] at h
 | k + 1=>by
  have ih0:=impl_SequenceOfAddress.mono_l k
  ·intro y0 y1 y2 y3 y4
   unfold impl_SequenceOfAddress.l0
   repeat' first
   | (with_reducible exact ih0 _ _ _ _ _)
   | (with_reducible exact impl_isAddress.mono _ _)
   | (with_reducible exact LeO.refl _)
   | (with_reducible exact LeO.none _)
   | (with_reducible refine LeO.ite ?_ ?_)
   | (with_reducible refine LeO.bind ?_ (fun _=>?_))
   | exact ih0 _ _ _ _ _
   | exact impl_isAddress.mono _ _
   | exact LeO.none _
   | refine LeO.ite ?_ ?_
   | refine LeO.bind ?_ (fun _=>?_)
theorem impl_SequenceOfAddress.mono:∀ a0 k,LeO (impl_SequenceOfAddress.f k a0) (impl_SequenceOfAddress.f (k + 1) a0):=by
 intro a0 k
 have ih0:=impl_SequenceOfAddress.mono_l k
 unfold impl_SequenceOfAddress.f
 repeat' first
   | (with_reducible exact ih0 _ _ _ _ _)
   | (with_reducible exact impl_isAddress.mono _ _)
   | (with_reducible exact LeO.refl _)
   | (with_reducible exact LeO.none _)
   | (with_reducible refine LeO.ite ?_ ?_)
   | (with_reducible refine LeO.bind ?_ (fun _=>?_))
   | exact ih0 _ _ _ _ _
   | exact impl_isAddress.mono _ _
   | exact LeO.none _
   | refine LeO.ite ?_ ?_
   | refine LeO.bind ?_ (fun _=>?_)
set_option maxHeartbeats 8000000 in
set_option maxRecDepth 100000 in
theorem impl_SequenceOfAddress.calls (k:Nat) (A0:Option Addr) (c0:Nat) (l0:List Int) (r1:ByteArray) (r2:ByteArray) (r3:Int) (w:World) (hr0:Kd.C (Kd.int .i64) w A0 l0.length l0) (hc0:l0.length ≤ c0) (h:impl_SequenceOfAddress.f k l0 = some (r1,r2,r3)) :
  Calls Try.prog 13 #[.slice A0 l0.length c0] w fun e w'=>e = .returned (.tuple #[.agg #[.string r1,.string r2],.int .i64 r3]) ∧ Below w.heap.size w w':=by
 have hu25:=Try.underlying25
 have HR0:=aM hr0
 have HC0:=aM hc0
 clear hr0 hc0
 have HB:=aM (Below.refl w.heap.size w)
 have H:((impl_isAddress.f k l0).bind fun t410=>(if t410 = true then (impl_SequenceOfAddress.l0 k l0 (⟨#[42]⟩:ByteArray) l0 (l0.length:Int) 0) else (some ((⟨#[]⟩:ByteArray),(⟨#[]⟩:ByteArray),2)))) = some (r1,r2,r3):=h
 clear h
 replace H:=Option.bind_eq_some_iff.mp H
 obtain ⟨t410,A20,H⟩:=H
 replace H:(if t410 = true then (impl_SequenceOfAddress.l0 k l0 (⟨#[42]⟩:ByteArray) l0 (l0.length:Int) 0) else (some ((⟨#[]⟩:ByteArray),(⟨#[]⟩:ByteArray),2))) = some (r1,r2,r3):=H
 have A2:=aM A20
 clear A20
 by_cases c3:t410 = true
 ·subst c3
  have H1:(impl_SequenceOfAddress.l0 k l0 (⟨#[42]⟩:ByteArray) l0 (l0.length:Int) 0) = some (r1,r2,r3):=by rw [if_pos rfl] at H;exact H
  clear H
  have H:=H1
  clear H1
  have H':=aM H
  clear H
  go_enter Try.func13,Try.ntmps13
  go_wp2_with (first|((with_reducible refine gate_dst (N:=2) rfl ?_);refine box_event ?hg (N:=2) ?hd (cs:=#[.string ⟨#[]⟩,.string ⟨#[]⟩]) (t:=25) ?hr ?_;(case hd=>rfl);(case hg=>rfl);(case hr=>first|(go_simp;done)|(go_simp;rfl));intro gb409 hg w4 hbox hb;have n0_:=aM (below_step (by repeat (first|(with_reducible first|exact HB.out|apply zA|apply zN|apply zD)|exact HB.out)) hb);have n1_:=aM (hbox);have n2_:=aM ((by rw [hg];exact (below_size (by repeat (first|(with_reducible first|exact HB.out|apply zA|apply zN|apply zD)|exact HB.out))):w.heap.size ≤ gb409));have n3_:=aM ((by rw [hg];exact (below_size (by repeat (first|(with_reducible first|exact HB.out|apply zA|apply zN|apply zD)|exact HB.out))):w.heap.size ≤ gb409));clear HB;have HB:=n0_;have BK409:=n1_;have GW409:=n2_;have GE409:=n3_;clear n0_ n1_ n2_ n3_;clear hb hbox hg)|((with_reducible refine gate_callee (f:=27) rfl ?_);refine goesL_ (some 10) rfl rfl Try.func27 (by kernel_rfl) rfl #[.slice A0 l0.length c0] rfl (by (try simp only [sM,sC,sN]);first|done|rfl|(simp only [List.length_drop,List.length_take];rfl)) ?_;(with_reducible refine (impl_isAddress.calls k _ _ l0 true _ ?side1 ?side2 A2.out).mono ?_);(case side1=>repeat (first|exact (Kd.C_below HR0.out HB.out)|(with_reducible refine cA ?_ _)|(with_reducible refine cN ?_ _)|(with_reducible refine cD ?_)));(case side2=>exact HC0.out);rintro e w' ⟨rfl,⟨nd,rfl⟩⟩;refine ⟨_,rfl,?_⟩))
  go_loopg [4,15] k (fun kq v4 v15 w'=>∃ (x4_1:ByteArray) (x15_1:Int),v4 = .string x4_1 ∧ v15 = .int .i64 x15_1 ∧ Aside0 (impl_SequenceOfAddress.l0 kq l0 x4_1 l0 (l0.length:Int) x15_1 = some (r1,r2,r3)) ∧ Aside0 (kq ≤ k) ∧ Aside0 (w'.heap[gb409]? = some (.cells #[.string ⟨#[]⟩,.string ⟨#[]⟩] 25 (0,0))) ∧ Aside0 (Below w.heap.size w w'))
  case atStart=>exact ⟨((⟨#[42]⟩:ByteArray)),(0),(by first|rfl|(simp;done)|(simp [*];done)),(by first|rfl|(simp;done)|(simp [*];done)),H',⟨Nat.le_refl _⟩,⟨by (with_reducible repeat (first|apply yN|apply yD|apply yA));exact BK409.out⟩,⟨by repeat (first|(with_reducible first|exact HB.out|apply zA|apply zN|apply zD|refine zS ?_ GE409.out)|exact HB.out)⟩⟩
  case round =>
   clear H'
   try clear c1
   try clear c2
   try clear p2
   try clear c3
   obtain ⟨x4_1,x15_1,rfl,rfl,HA,HK1,BK409,HB⟩:=hrel
   cases gk with
   | zero=>exact absurd HA.out (by simp [impl_SequenceOfAddress.l0])
   | succ k1 =>
    have H:=HA.out
    clear HA
    simp only [impl_SequenceOfAddress.l0] at H
    by_cases c5:x15_1 < (l0.length:Int)
    ·rw [if_pos c5] at H
     have c5b0:decide (x15_1 < (l0.length:Int)) = true:=decide_eq_true c5
     clear c5
     by_cases c6:0 ≤ x15_1
     ·rw [if_pos c6] at H
      have c6b0:decide (0 ≤ x15_1) = true:=decide_eq_true c6
      clear c6
      by_cases c7:x15_1 < (l0.length:Int)
      ·rw [if_pos c7] at H
       have c7b0:decide (x15_1 < (l0.length:Int)) = true:=decide_eq_true c7
       clear c7
       by_cases c8:(l0.length:Int) = 1
       ·rw [if_pos c8] at H
        have c8b0:((l0.length:Int) == 1) = true:=beq_iff_eq.mpr c8
        have c8b1:((l0.length:Int) != 1) = false:=bne_eq_false_iff_eq.mpr c8
        clear c8
        have H':=aM H
        clear H
        have p411:0 ≤ (x15_1:Int):=of_decide_eq_true (by first|(with_reducible assumption)|assumption)
        have q411:x15_1 < (l0.length:Int):=of_decide_eq_true (by first|(with_reducible assumption)|assumption)
        obtain ⟨ad411,e411,hx411_0⟩:=Kd.at_int HR0.out x15_1 p411 q411
        cases e411
        replace hx411_0:=(HB.out.cell (World.block_lt_of_cell? w _ hx411_0)).trans hx411_0
        replace p411:=eq_true p411
        replace q411:=eq_true q411
        go_wp2
        go_roundg k1
        case measure=>have:=HK1.out;omega
        case rel=>exact ⟨(x4_1),(wrap64 (x15_1 + 1)),(by first|rfl|(simp;done)|(simp [*];done)),(by first|rfl|(simp;done)|(simp [*];done)),H',⟨by have:=HK1.out;omega⟩,⟨by (with_reducible repeat (first|apply yN|apply yD|apply yA));exact BK409.out⟩,⟨by repeat (first|(with_reducible first|exact HB.out|apply zA|apply zN|apply zD|refine zS ?_ GE409.out)|exact HB.out)⟩⟩
       ·rw [if_neg c8] at H
        have c8b0:((l0.length:Int) == 1) = false:=beq_eq_false_iff_ne.mpr c8
        have c8b1:((l0.length:Int) != 1) = true:=bne_iff_ne.mpr c8
        by_cases c9:x15_1 = 0
        ·rw [if_pos c9] at H
         have c9b0:(x15_1 == 0) = true:=beq_iff_eq.mpr c9
         have c9b1:(x15_1 != 0) = false:=bne_eq_false_iff_eq.mpr c9
         clear c9
         have H':=aM H
         clear H
         have p411:0 ≤ (x15_1:Int):=of_decide_eq_true (by first|(with_reducible assumption)|assumption)
         have q411:x15_1 < (l0.length:Int):=of_decide_eq_true (by first|(with_reducible assumption)|assumption)
         obtain ⟨ad411,e411,hx411_0⟩:=Kd.at_int HR0.out x15_1 p411 q411
         cases e411
         replace hx411_0:=(HB.out.cell (World.block_lt_of_cell? w _ hx411_0)).trans hx411_0
         replace p411:=eq_true p411
         replace q411:=eq_true q411
         go_wp2
         go_roundg k1
         case measure=>have:=HK1.out;omega
         case rel=>exact ⟨((⟨#[49]⟩:ByteArray)),(wrap64 (x15_1 + 1)),(by first|rfl|(simp;done)|(simp [*];done)),(by first|rfl|(simp;done)|(simp [*];done)),H',⟨by have:=HK1.out;omega⟩,⟨by (with_reducible repeat (first|apply yN|apply yD|apply yA));exact BK409.out⟩,⟨by repeat (first|(with_reducible first|exact HB.out|apply zA|apply zN|apply zD|refine zS ?_ GE409.out)|exact HB.out)⟩⟩
        ·rw [if_neg c9] at H
         have c9b0:(x15_1 == 0) = false:=beq_eq_false_iff_ne.mpr c9
         have c9b1:(x15_1 != 0) = true:=bne_iff_ne.mpr c9
         replace H:=Option.bind_eq_some_iff.mp H
         obtain ⟨⟨t412,t413⟩,A100,H⟩:=H
         replace H:(if x15_1 = (wrap64 ((l0.length:Int) - 1)) then (if t412.size + 1 ≤ 9223372036854775807 then (impl_SequenceOfAddress.l0 k1 l0 (t412 ++ (⟨#[42]⟩:ByteArray)) l0 (l0.length:Int) (wrap64 (x15_1 + 1))) else (none)) else (if t413 = 48 then (if t412.size + 1 ≤ 9223372036854775807 then (impl_SequenceOfAddress.l0 k1 l0 (t412 ++ (⟨#[49]⟩:ByteArray)) l0 (l0.length:Int) (wrap64 (x15_1 + 1))) else (none)) else (if t412.size + 1 ≤ 9223372036854775807 then (impl_SequenceOfAddress.l0 k1 l0 (t412 ++ (⟨#[48]⟩:ByteArray)) l0 (l0.length:Int) (wrap64 (x15_1 + 1))) else (none)))) = some (r1,r2,r3):=H
         have A10:=aM A100
         clear A100
         by_cases c11:x15_1 = (wrap64 ((l0.length:Int) - 1))
         ·rw [if_pos c11] at H
          have c11b0:(x15_1 == (wrap64 ((l0.length:Int) - 1))) = true:=beq_iff_eq.mpr c11
          have c11b1:(x15_1 != (wrap64 ((l0.length:Int) - 1))) = false:=bne_eq_false_iff_eq.mpr c11
          clear c11
          by_cases c12:t412.size + 1 ≤ 9223372036854775807
          ·rw [if_pos c12] at H
           have c12b0:=eq_true c12
           have c12b1:decide (t412.size + 1 ≤ 9223372036854775807) = true:=decide_eq_true c12
           try have c12b2:(9223372036854775807 < t412.size + 1) = False:=eq_false (Nat.not_lt.2 c12)
           have H':=aM H
           clear H
           have p411:0 ≤ (x15_1:Int):=of_decide_eq_true (by first|(with_reducible assumption)|assumption)
           have q411:x15_1 < (l0.length:Int):=of_decide_eq_true (by first|(with_reducible assumption)|assumption)
           obtain ⟨ad411,e411,hx411_0⟩:=Kd.at_int HR0.out x15_1 p411 q411
           cases e411
           replace hx411_0:=(HB.out.cell (World.block_lt_of_cell? w _ hx411_0)).trans hx411_0
           replace p411:=eq_true p411
           replace q411:=eq_true q411
           go_wp2_with (first|((with_reducible refine gate_callee (f:=28) rfl ?_);refine goesL_ (some 23) rfl rfl Try.func28 (by kernel_rfl) rfl #[.string x4_1,.int .i64 (rd l0 x15_1)] rfl (by (try simp only [sM,sC,sN]);first|done|rfl|(simp only [List.length_drop,List.length_take];rfl)) ?_;(with_reducible refine (impl_repeated.calls x4_1 (rd l0 x15_1) t412 t413 _ A10.out).mono ?_);rintro e w13 ⟨rfl,hb⟩;refine ⟨_,rfl,?_⟩;replace BK409:=aM (blk_below (g:=gb409) (o:=.cells #[.string ⟨#[]⟩,.string ⟨#[]⟩] 25 (0,0)) (by (with_reducible repeat (first|apply yN|apply yD|apply yA));exact BK409.out) hb);replace HB:=aM (below_step (by repeat (first|(with_reducible first|exact HB.out|apply zA|apply zN|apply zD|refine zS ?_ GE409.out)|exact HB.out)) hb);(try clear hb);(try clear hb2);(try clear hk);(try clear hi)))
           go_roundg k1
           case measure=>have:=HK1.out;omega
           case rel=>exact ⟨(t412 ++ (⟨#[42]⟩:ByteArray)),(wrap64 (x15_1 + 1)),(by first|rfl|(simp;done)|(simp [*];done)),(by first|rfl|(simp;done)|(simp [*];done)),H',⟨by have:=HK1.out;omega⟩,⟨by (with_reducible repeat (first|apply yN|apply yD|apply yA));exact BK409.out⟩,⟨by repeat (first|(with_reducible first|exact HB.out|apply zA|apply zN|apply zD|refine zS ?_ GE409.out)|exact HB.out)⟩⟩
          ·rw [if_neg c12] at H
           exact absurd H (by simp)
         ·rw [if_neg c11] at H
          have c11b0:(x15_1 == (wrap64 ((l0.length:Int) - 1))) = false:=beq_eq_false_iff_ne.mpr c11
          have c11b1:(x15_1 != (wrap64 ((l0.length:Int) - 1))) = true:=bne_iff_ne.mpr c11
          by_cases c14:t413 = 48
          ·rw [if_pos c14] at H
           have c14b0:(t413 == 48) = true:=beq_iff_eq.mpr c14
           have c14b1:(t413 != 48) = false:=bne_eq_false_iff_eq.mpr c14
           clear c14
           by_cases c15:t412.size + 1 ≤ 9223372036854775807
           ·rw [if_pos c15] at H
            have c15b0:=eq_true c15
            have c15b1:decide (t412.size + 1 ≤ 9223372036854775807) = true:=decide_eq_true c15
            try have c15b2:(9223372036854775807 < t412.size + 1) = False:=eq_false (Nat.not_lt.2 c15)
            have H':=aM H
            clear H
            have p411:0 ≤ (x15_1:Int):=of_decide_eq_true (by first|(with_reducible assumption)|assumption)
            have q411:x15_1 < (l0.length:Int):=of_decide_eq_true (by first|(with_reducible assumption)|assumption)
            obtain ⟨ad411,e411,hx411_0⟩:=Kd.at_int HR0.out x15_1 p411 q411
            cases e411
            replace hx411_0:=(HB.out.cell (World.block_lt_of_cell? w _ hx411_0)).trans hx411_0
            replace p411:=eq_true p411
            replace q411:=eq_true q411
            go_wp2_with (first|((with_reducible refine gate_callee (f:=28) rfl ?_);refine goesL_ (some 23) rfl rfl Try.func28 (by kernel_rfl) rfl #[.string x4_1,.int .i64 (rd l0 x15_1)] rfl (by (try simp only [sM,sC,sN]);first|done|rfl|(simp only [List.length_drop,List.length_take];rfl)) ?_;(with_reducible refine (impl_repeated.calls x4_1 (rd l0 x15_1) t412 t413 _ A10.out).mono ?_);rintro e w16 ⟨rfl,hb⟩;refine ⟨_,rfl,?_⟩;replace BK409:=aM (blk_below (g:=gb409) (o:=.cells #[.string ⟨#[]⟩,.string ⟨#[]⟩] 25 (0,0)) (by (with_reducible repeat (first|apply yN|apply yD|apply yA));exact BK409.out) hb);replace HB:=aM (below_step (by repeat (first|(with_reducible first|exact HB.out|apply zA|apply zN|apply zD|refine zS ?_ GE409.out)|exact HB.out)) hb);(try clear hb);(try clear hb2);(try clear hk);(try clear hi)))
            go_roundg k1
            case measure=>have:=HK1.out;omega
            case rel=>exact ⟨(t412 ++ (⟨#[49]⟩:ByteArray)),(wrap64 (x15_1 + 1)),(by first|rfl|(simp;done)|(simp [*];done)),(by first|rfl|(simp;done)|(simp [*];done)),H',⟨by have:=HK1.out;omega⟩,⟨by (with_reducible repeat (first|apply yN|apply yD|apply yA));exact BK409.out⟩,⟨by repeat (first|(with_reducible first|exact HB.out|apply zA|apply zN|apply zD|refine zS ?_ GE409.out)|exact HB.out)⟩⟩
           ·rw [if_neg c15] at H
            exact absurd H (by simp)
          ·rw [if_neg c14] at H
           have c14b0:(t413 == 48) = false:=beq_eq_false_iff_ne.mpr c14
           have c14b1:(t413 != 48) = true:=bne_iff_ne.mpr c14
           by_cases c17:t412.size + 1 ≤ 9223372036854775807
           ·rw [if_pos c17] at H
            have c17b0:=eq_true c17
            have c17b1:decide (t412.size + 1 ≤ 9223372036854775807) = true:=decide_eq_true c17
            try have c17b2:(9223372036854775807 < t412.size + 1) = False:=eq_false (Nat.not_lt.2 c17)
            have H':=aM H
            clear H
            have p411:0 ≤ (x15_1:Int):=of_decide_eq_true (by first|(with_reducible assumption)|assumption)
            have q411:x15_1 < (l0.length:Int):=of_decide_eq_true (by first|(with_reducible assumption)|assumption)
            obtain ⟨ad411,e411,hx411_0⟩:=Kd.at_int HR0.out x15_1 p411 q411
            cases e411
            replace hx411_0:=(HB.out.cell (World.block_lt_of_cell? w _ hx411_0)).trans hx411_0
            replace p411:=eq_true p411
            replace q411:=eq_true q411
            go_wp2_with (first|((with_reducible refine gate_callee (f:=28) rfl ?_);refine goesL_ (some 23) rfl rfl Try.func28 (by kernel_rfl) rfl #[.string x4_1,.int .i64 (rd l0 x15_1)] rfl (by (try simp only [sM,sC,sN]);first|done|rfl|(simp only [List.length_drop,List.length_take];rfl)) ?_;(with_reducible refine (impl_repeated.calls x4_1 (rd l0 x15_1) t412 t413 _ A10.out).mono ?_);rintro e w18 ⟨rfl,hb⟩;refine ⟨_,rfl,?_⟩;replace BK409:=aM (blk_below (g:=gb409) (o:=.cells #[.string ⟨#[]⟩,.string ⟨#[]⟩] 25 (0,0)) (by (with_reducible repeat (first|apply yN|apply yD|apply yA));exact BK409.out) hb);replace HB:=aM (below_step (by repeat (first|(with_reducible first|exact HB.out|apply zA|apply zN|apply zD|refine zS ?_ GE409.out)|exact HB.out)) hb);(try clear hb);(try clear hb2);(try clear hk);(try clear hi)))
            go_roundg k1
            case measure=>have:=HK1.out;omega
            case rel=>exact ⟨(t412 ++ (⟨#[48]⟩:ByteArray)),(wrap64 (x15_1 + 1)),(by first|rfl|(simp;done)|(simp [*];done)),(by first|rfl|(simp;done)|(simp [*];done)),H',⟨by have:=HK1.out;omega⟩,⟨by (with_reducible repeat (first|apply yN|apply yD|apply yA));exact BK409.out⟩,⟨by repeat (first|(with_reducible first|exact HB.out|apply zA|apply zN|apply zD|refine zS ?_ GE409.out)|exact HB.out)⟩⟩
           ·rw [if_neg c17] at H
            exact absurd H (by simp)
      ·rw [if_neg c7] at H
       exact absurd H (by simp)
     ·rw [if_neg c6] at H
      exact absurd H (by simp)
    ·rw [if_neg c5] at H
     have c5b0:decide (x15_1 < (l0.length:Int)) = false:=decide_eq_false c5
     clear c5
     simp only [Option.some.injEq,Prod.mk.injEq] at H
     obtain ⟨rfl,rfl,rfl⟩:=H
     have hcz19_0:wr.cell? ⟨gb409,0,none⟩ = some (.string ⟨#[]⟩):=(blk_cell BK409.out 0).trans rfl
     have hcz19_1:wr.cell? ⟨gb409,1,none⟩ = some (.string ⟨#[]⟩):=(blk_cell BK409.out 1).trans rfl
     have hfz19_0:=blk_frozen BK409.out 0
     have hfz19_1:=blk_frozen BK409.out 1
     go_wp2
     refine bodyPost_ret (results_ct rfl _ _ gb409 25 #[.string ⟨#[]⟩,.string x4_1] (0,0) _ rfl (by (with_reducible repeat (first|apply yN|apply yD|apply yA));refine blk_put (cs:=#[.string ⟨#[]⟩,.string ⟨#[]⟩]) ?_ 1 _ rfl;(with_reducible repeat (first|apply yN|apply yD|apply yA));refine blk_put (cs:=#[.string ⟨#[]⟩,.string ⟨#[]⟩]) ?_ 0 _ rfl;(with_reducible repeat (first|apply yN|apply yD|apply yA));exact BK409.out) Try.underlying25 rfl (by kernel_rfl)) rfl ?_
     exact ⟨by first|rfl|(simp [errW_none,errW_some] <;> rfl)|(simp [*,errW_none,errW_some] <;> rfl),by repeat (first|(with_reducible first|exact HB.out|apply zA|apply zN|apply zD|refine zS ?_ GE409.out)|exact HB.out)⟩
 ·replace c3:=Bool.eq_false_iff.mpr c3
  subst c3
  have H1:(some ((⟨#[]⟩:ByteArray),(⟨#[]⟩:ByteArray),2)) = some (r1,r2,r3):=by rw [if_neg (show ¬ (false = true) by decide)] at H;exact H
  clear H
  have H:=H1
  clear H1
  simp only [Option.some.injEq,Prod.mk.injEq] at H
  obtain ⟨rfl,rfl,rfl⟩:=H
  go_enter Try.func13,Try.ntmps13
  go_wp2_with (first|((with_reducible refine gate_dst (N:=2) rfl ?_);refine box_event ?hg (N:=2) ?hd (cs:=#[.string ⟨#[]⟩,.string ⟨#[]⟩]) (t:=25) ?hr ?_;(case hd=>rfl);(case hg=>rfl);(case hr=>first|(go_simp;done)|(go_simp;rfl));intro gb409 hg w20 hbox hb;have n0_:=aM (below_step (by repeat (first|(with_reducible first|exact HB.out|apply zA|apply zN|apply zD)|exact HB.out)) hb);have n1_:=aM (hbox);have n2_:=aM ((by rw [hg];exact (below_size (by repeat (first|(with_reducible first|exact HB.out|apply zA|apply zN|apply zD)|exact HB.out))):w.heap.size ≤ gb409));have n3_:=aM ((by rw [hg];exact (below_size (by repeat (first|(with_reducible first|exact HB.out|apply zA|apply zN|apply zD)|exact HB.out))):w.heap.size ≤ gb409));clear HB;have HB:=n0_;have BK409:=n1_;have GW409:=n2_;have GE409:=n3_;clear n0_ n1_ n2_ n3_;clear hb hbox hg)|((with_reducible refine gate_callee (f:=27) rfl ?_);refine goesL_ (some 10) rfl rfl Try.func27 (by kernel_rfl) rfl #[.slice A0 l0.length c0] rfl (by (try simp only [sM,sC,sN]);first|done|rfl|(simp only [List.length_drop,List.length_take];rfl)) ?_;(with_reducible refine (impl_isAddress.calls k _ _ l0 false _ ?side1 ?side2 A2.out).mono ?_);(case side1=>repeat (first|exact (Kd.C_below HR0.out HB.out)|(with_reducible refine cA ?_ _)|(with_reducible refine cN ?_ _)|(with_reducible refine cD ?_)));(case side2=>exact HC0.out);rintro e w' ⟨rfl,⟨nd,rfl⟩⟩;refine ⟨_,rfl,?_⟩;(try (rw [drewN_self w20];generalize hq_:World.drewN w20 _ = w20;have n0_:Aside0 (w20.heap[gb409]? = some (.cells #[.string ⟨#[]⟩,.string ⟨#[]⟩] 25 (0,0))):=⟨by rw [← hq_];exact (by (with_reducible repeat (first|apply yN|apply yD|apply yA));exact BK409.out)⟩;have n1_:Aside0 (Below w.heap.size w w20):=⟨by rw [← hq_];exact (by repeat (first|(with_reducible first|exact HB.out|apply zA|apply zN|apply zD|refine zS ?_ GE409.out)|exact HB.out))⟩;clear BK409 HB hq_;have BK409:=n0_;have HB:=n1_;clear n0_ n1_));have hcz21_0:w20.cell? ⟨gb409,0,none⟩ = some (.string ⟨#[]⟩):=(blk_cell BK409.out 0).trans rfl;have hcz21_1:w20.cell? ⟨gb409,1,none⟩ = some (.string ⟨#[]⟩):=(blk_cell BK409.out 1).trans rfl;have hfz21_0:=blk_frozen BK409.out 0;have hfz21_1:=blk_frozen BK409.out 1))
  refine bodyPost_ret (results_ct rfl _ _ gb409 25 #[.string ⟨#[]⟩,.string ⟨#[]⟩] (0,0) _ rfl (by (with_reducible repeat (first|apply yN|apply yD|apply yA));refine blk_put (cs:=#[.string ⟨#[]⟩,.string ⟨#[]⟩]) ?_ 1 _ rfl;(with_reducible repeat (first|apply yN|apply yD|apply yA));refine blk_put (cs:=#[.string ⟨#[]⟩,.string ⟨#[]⟩]) ?_ 0 _ rfl;(with_reducible repeat (first|apply yN|apply yD|apply yA));exact BK409.out) Try.underlying25 rfl (by kernel_rfl)) rfl ?_
  exact ⟨by first|rfl|(simp [errW_none,errW_some] <;> rfl)|(simp [*,errW_none,errW_some] <;> rfl),by repeat (first|(with_reducible first|exact HB.out|apply zA|apply zN|apply zD|refine zS ?_ GE409.out)|exact HB.out)⟩
mutual
def spec_l02Address.j0:Nat → List Int → Bool → Option (Bool)
 | 0,_,_=>none
 | k + 1,x0,x17=>if x17 = true then (some false) else (spec_l02Address.l0 k x0 1)
def spec_l02Address.l0:Nat → List Int → Int → Option (Bool)
 | 0,_,_=>none
 | k + 1,x0,x3=>if x3 < (x0.length:Int) then (if 0 ≤ x3 then (if 0 ≤ (wrap64 (x3 - 1)) then (if (wrap64 (x3 - 1)) < (x0.length:Int) then (if (rd x0 x3) ≤ (rd x0 (wrap64 (x3 - 1))) then (some false) else (spec_l02Address.l0 k x0 (wrap64 (x3 + 1)))) else (none)) else (none)) else (none)) else (if 0 ≤ (wrap64 ((x0.length:Int) - 1)) then (if (wrap64 ((x0.length:Int) - 1)) < (x0.length:Int) then (some (decide ((rd x0 (wrap64 ((x0.length:Int) - 1))) ≤ 40))) else (none)) else (none))
end
def spec_l02Address.f (k:Nat) (l0:List Int):Option (Bool):=if (l0.length:Int) < 1 then (spec_l02Address.j0 k l0 true) else (if (l0.length:Int) > 20 then (spec_l02Address.j0 k l0 true) else (if 0 < (l0.length:Int) then (spec_l02Address.j0 k l0 ((rd l0 0) != 1)) else (none)))
theorem spec_l02Address.mono_l:∀ k,(∀ y0 y1,LeO (spec_l02Address.j0 k y0 y1) (spec_l02Address.j0 (k + 1) y0 y1)) ∧ (∀ y0 y1,LeO (spec_l02Address.l0 k y0 y1) (spec_l02Address.l0 (k + 1) y0 y1))
 | 0=>⟨fun _ _ r h=>by simp [spec_l02Address.j0] at h,fun _ _ r h=>by simp [spec_l02Address.l0] at h⟩
 | k + 1=>by
  obtain ⟨ih0,ih1⟩:=spec_l02Address.mono_l k
  refine ⟨?_,?_⟩
  ·intro y0 y1
   unfold spec_l02Address.j0
   repeat' first
   | (with_reducible exact ih0 _ _)
   | (with_reducible exact ih1 _ _)
   | (with_reducible exact LeO.refl _)
   | (with_reducible exact LeO.none _)
   | (with_reducible refine LeO.ite ?_ ?_)
   | (with_reducible refine LeO.bind ?_ (fun _=>?_))
   | exact ih0 _ _
   | exact ih1 _ _
   | exact LeO.none _
   | refine LeO.ite ?_ ?_
   | refine LeO.bind ?_ (fun _=>?_)
  ·intro y0 y1
   unfold spec_l02Address.l0
   repeat' first
   | (with_reducible exact ih0 _ _)
   | (with_reducible exact ih1 _ _)
   | (with_reducible exact LeO.refl _)
   | (with_reducible exact LeO.none _)
   | (with_reducible refine LeO.ite ?_ ?_)
   | (with_reducible refine LeO.bind ?_ (fun _=>?_))
   | exact ih0 _ _
   | exact ih1 _ _
   | exact LeO.none _
   | refine LeO.ite ?_ ?_
   | refine LeO.bind ?_ (fun _=>?_)
theorem spec_l02Address.mono:∀ a0 k,LeO (spec_l02Address.f k a0) (spec_l02Address.f (k + 1) a0):=by
 intro a0 k
 obtain ⟨ih0,ih1⟩:=spec_l02Address.mono_l k
 unfold spec_l02Address.f
 repeat' first
   | (with_reducible exact ih0 _ _)
   | (with_reducible exact ih1 _ _)
   | (with_reducible exact LeO.refl _)
   | (with_reducible exact LeO.none _)
   | (with_reducible refine LeO.ite ?_ ?_)
   | (with_reducible refine LeO.bind ?_ (fun _=>?_))
   | exact ih0 _ _
   | exact ih1 _ _
   | exact LeO.none _
   | refine LeO.ite ?_ ?_
   | refine LeO.bind ?_ (fun _=>?_)
set_option maxHeartbeats 8000000 in
set_option maxRecDepth 100000 in
theorem spec_l02Address.calls (k:Nat) (A0:Option Addr) (c0:Nat) (l0:List Int) (r:Bool) (w:World) (hr0:Kd.C (Kd.int .i64) w A0 l0.length l0) (hc0:l0.length ≤ c0) (h:spec_l02Address.f k l0 = some r) :
  Calls Try.prog 29 #[.slice A0 l0.length c0] w fun e w'=>e = .returned (.bool r) ∧ Drawn0 w w':=by
 have HR0:=aM hr0
 have HC0:=aM hc0
 clear hr0 hc0
 have H:(if (l0.length:Int) < 1 then (spec_l02Address.j0 k l0 true) else (if (l0.length:Int) > 20 then (spec_l02Address.j0 k l0 true) else (if 0 < (l0.length:Int) then (spec_l02Address.j0 k l0 ((rd l0 0) != 1)) else (none)))) = some r:=h
 clear h
 have HC2:=aM H
 clear H
 go_enter Try.func29,Try.ntmps29
 go_upto_region 1 with (fail)
 repeat (go_quiet (fail);go_upto_region 1 with (fail))
 go_cut [17] (fun v17 wc=>∃ (kq:Nat) (x17_1:Bool),v17 = .bool x17_1 ∧ Aside0 (spec_l02Address.j0 kq l0 x17_1 = some r) ∧ Aside0 (kq ≤ k) ∧ Drawn0 w wc)
 case first =>
  have H:=HC2.out
  clear HC2
  by_cases c3:(l0.length:Int) < 1
  ·rw [if_pos c3] at H
   have c3b0:decide ((l0.length:Int) < 1) = true:=decide_eq_true c3
   have c3b1:decide (l0.length < 1) = true:=decide_eq_true (by omega)
   clear c3
   (first|rw [c3b0]|(simp only [i64_w,i32_w];rw [c3b0])|skip)
   have H':=aM H
   clear H
   go_wp2
   repeat (go_quiet (fail);try go_wp2)
   go_meet
   case rel=>exact ⟨_,(true),(by first|rfl|(simp;done)|(simp [*];done)),H',⟨by first|omega|exact Nat.le_refl _⟩,by repeat (first|exact Drawn0.refl _|apply Drawn0.step)⟩
  ·rw [if_neg c3] at H
   have c3b0:decide ((l0.length:Int) < 1) = false:=decide_eq_false c3
   have c3b1:decide (l0.length < 1) = false:=decide_eq_false (by omega)
   clear c3
   (first|rw [c3b0]|(simp only [i64_w,i32_w];rw [c3b0])|skip)
   by_cases c4:(l0.length:Int) > 20
   ·rw [if_pos c4] at H
    have c4b0:decide (20 < (l0.length:Int)) = true:=decide_eq_true c4
    have c4b1:decide (20 < l0.length) = true:=decide_eq_true (by omega)
    clear c4
    have H':=aM H
    clear H
    go_wp2
    repeat (go_quiet (fail);try go_wp2)
    go_meet
    case rel=>exact ⟨_,(true),(by first|rfl|(simp;done)|(simp [*];done)),H',⟨by first|omega|exact Nat.le_refl _⟩,by repeat (first|exact Drawn0.refl _|apply Drawn0.step)⟩
   ·rw [if_neg c4] at H
    have c4b0:decide (20 < (l0.length:Int)) = false:=decide_eq_false c4
    have c4b1:decide (20 < l0.length) = false:=decide_eq_false (by omega)
    clear c4
    by_cases c5:0 < (l0.length:Int)
    ·rw [if_pos c5] at H
     have c5b0:decide (0 < (l0.length:Int)) = true:=decide_eq_true c5
     have c5b1:decide (0 < l0.length) = true:=decide_eq_true (by omega)
     clear c5
     have H':=aM H
     clear H
     have p414:0 ≤ (0:Int):=(by omega)
     have q414:0 < (l0.length:Int):=of_decide_eq_true (by first|(with_reducible assumption)|assumption)
     obtain ⟨ad414,e414,hx414_0⟩:=Kd.at_int HR0.out 0 p414 q414
     cases e414
     have qi414:(0 < l0.length) = True:=eq_true (by omega)
     (try rw [show ((0:Int)).toNat = 0 from rfl] at hx414_0)
     (try rw [Addr.add_zero'] at hx414_0)
     replace p414:=eq_true p414
     replace q414:=eq_true q414
     go_wp2
     repeat (go_quiet (fail);try go_wp2)
     go_meet
     case rel=>exact ⟨_,(((rd l0 0) != 1)),(by first|rfl|(simp;done)|(simp [*];done)),H',⟨by first|omega|exact Nat.le_refl _⟩,by repeat (first|exact Drawn0.refl _|apply Drawn0.step)⟩
    ·rw [if_neg c5] at H
     exact absurd H (by simp)
 case rest =>
  clear HC2
  try clear c2
  try clear p2
  try clear c3
  try clear c3b0
  try clear c3b1
  try clear c4
  try clear c4b0
  try clear c4b1
  try clear p4
  try clear q4
  try clear hx4
  try clear qi4
  try clear c5
  try clear c5b0
  try clear c5b1
  try clear hx414_0
  try clear p414
  try clear q414
  obtain ⟨kq,x17_1,rfl,HA,HJ1,⟨mc1,rfl⟩⟩:=hcut
  cases kq with
  | zero=>exact absurd HA.out (by simp [spec_l02Address.j0])
  | succ kj1 =>
   have H:=HA.out
   clear HA
   simp only [spec_l02Address.j0] at H
   by_cases c6:x17_1 = true
   ·subst c6
    have H1:(some false) = some r:=by rw [if_pos rfl] at H;exact H
    clear H
    have H:=H1
    clear H1
    obtain rfl:=Option.some.inj H
    go_wp2
    repeat (go_quiet (fail);try go_wp2)
    go_ret
    exact ⟨by first|rfl|(simp;done)|(simp [*];done),by repeat (first|exact Drawn0.refl _|apply Drawn0.step)⟩
   ·replace c6:=Bool.eq_false_iff.mpr c6
    subst c6
    have H1:(spec_l02Address.l0 kj1 l0 1) = some r:=by rw [if_neg (show ¬ (false = true) by decide)] at H;exact H
    clear H
    have H:=H1
    clear H1
    have H':=aM H
    clear H
    go_wp2
    repeat (go_quiet (fail);try go_wp2)
    go_loopg [3] kj1 (fun kq v3 w'=>∃ (x3_2:Int),v3 = .int .i64 x3_2 ∧ Aside0 (spec_l02Address.l0 kq l0 x3_2 = some r) ∧ Aside0 (kq ≤ kj1) ∧ Drawn0 w w')
    case atStart=>exact ⟨(1),(by first|rfl|(simp;done)|(simp [*];done)),H',⟨Nat.le_refl _⟩,by repeat (first|exact Drawn0.refl _|apply Drawn0.step)⟩
    case round =>
     clear H'
     try clear c1
     try clear c2
     try clear p2
     try clear c3
     try clear c3b0
     try clear c3b1
     try clear c4
     try clear c4b0
     try clear c4b1
     try clear p4
     try clear q4
     try clear hx4
     try clear qi4
     try clear c5
     try clear c5b0
     try clear c5b1
     try clear c6
     try clear hx414_0
     try clear p2
     try clear p4
     try clear p414
     try clear q4
     try clear q414
     obtain ⟨x3_2,rfl,HA,HK2,⟨m2,rfl⟩⟩:=hrel
     cases gk with
     | zero=>exact absurd HA.out (by simp [spec_l02Address.l0])
     | succ k2 =>
      have H:=HA.out
      clear HA
      simp only [spec_l02Address.l0] at H
      by_cases c7:x3_2 < (l0.length:Int)
      ·rw [if_pos c7] at H
       have c7b0:decide (x3_2 < (l0.length:Int)) = true:=decide_eq_true c7
       clear c7
       by_cases c8:0 ≤ x3_2
       ·rw [if_pos c8] at H
        have c8b0:decide (0 ≤ x3_2) = true:=decide_eq_true c8
        clear c8
        obtain ⟨ji9,hji9⟩:∃ j_:Int,(wrap64 (x3_2 - 1)) = j_:=⟨_,rfl⟩
        replace H:(if 0 ≤ (ji9) then (if (ji9) < (l0.length:Int) then (if (rd l0 x3_2) ≤ (rd l0 (ji9)) then (some false) else (spec_l02Address.l0 k2 l0 (wrap64 (x3_2 + 1)))) else (none)) else (none)) = some r:=by first|(rw [hji9] at H;exact H)|(simp only [hji9] at H ⊢;exact H)
        have hji9w:(IntKind.i64.wrap (x3_2 - 1)) = ji9:=(i64_w _).trans hji9
        by_cases c10:0 ≤ (ji9)
        ·rw [if_pos c10] at H
         have c10b0:decide (0 ≤ (ji9)) = true:=decide_eq_true c10
         clear c10
         by_cases c11:(ji9) < (l0.length:Int)
         ·rw [if_pos c11] at H
          have c11b0:decide ((ji9) < (l0.length:Int)) = true:=decide_eq_true c11
          clear c11
          by_cases c12:(rd l0 x3_2) ≤ (rd l0 (ji9))
          ·rw [if_pos c12] at H
           have c12b0:decide ((rd l0 x3_2) ≤ (rd l0 (ji9))) = true:=decide_eq_true c12
           clear c12
           obtain rfl:=Option.some.inj H
           have p415:0 ≤ (x3_2:Int):=of_decide_eq_true (by first|(with_reducible assumption)|assumption)
           have q415:x3_2 < (l0.length:Int):=of_decide_eq_true (by first|(with_reducible assumption)|assumption)
           obtain ⟨ad415,e415,hx415_0⟩:=Kd.at_int HR0.out x3_2 p415 q415
           cases e415
           replace p415:=eq_true p415
           replace q415:=eq_true q415
           have p416:0 ≤ ((ji9):Int):=of_decide_eq_true (by first|(with_reducible assumption)|assumption)
           have q416:(ji9) < (l0.length:Int):=of_decide_eq_true (by first|(with_reducible assumption)|assumption)
           obtain ⟨ad416,e416,hx416_0⟩:=Kd.at_int HR0.out (ji9) p416 q416
           obtain rfl:ad415 = ad416:=(by injection e416)
           replace p416:=eq_true p416
           replace q416:=eq_true q416
           go_wp2
           repeat (go_quiet (fail);try go_wp2)
           go_ret
           exact ⟨by first|rfl|(simp;done)|(simp only [← hji9] <;> (first|rfl|simp))|(simp [*];done),by repeat (first|exact Drawn0.refl _|apply Drawn0.step)⟩
          ·rw [if_neg c12] at H
           have c12b0:decide ((rd l0 x3_2) ≤ (rd l0 (ji9))) = false:=decide_eq_false c12
           clear c12
           have H':=aM H
           clear H
           have p415:0 ≤ (x3_2:Int):=of_decide_eq_true (by first|(with_reducible assumption)|assumption)
           have q415:x3_2 < (l0.length:Int):=of_decide_eq_true (by first|(with_reducible assumption)|assumption)
           obtain ⟨ad415,e415,hx415_0⟩:=Kd.at_int HR0.out x3_2 p415 q415
           cases e415
           replace p415:=eq_true p415
           replace q415:=eq_true q415
           have p416:0 ≤ ((ji9):Int):=of_decide_eq_true (by first|(with_reducible assumption)|assumption)
           have q416:(ji9) < (l0.length:Int):=of_decide_eq_true (by first|(with_reducible assumption)|assumption)
           obtain ⟨ad416,e416,hx416_0⟩:=Kd.at_int HR0.out (ji9) p416 q416
           obtain rfl:ad415 = ad416:=(by injection e416)
           replace p416:=eq_true p416
           replace q416:=eq_true q416
           go_wp2
           repeat (go_quiet (fail);try go_wp2)
           go_roundg k2
           case measure=>have:=HJ1.out;have:=HK2.out;omega
           case rel=>exact ⟨(wrap64 (x3_2 + 1)),(by first|rfl|(simp;done)|(simp [*];done)),H',⟨by have:=HJ1.out;have:=HK2.out;omega⟩,by repeat (first|exact Drawn0.refl _|apply Drawn0.step)⟩
         ·rw [if_neg c11] at H
          exact absurd H (by simp)
        ·rw [if_neg c10] at H
         exact absurd H (by simp)
       ·rw [if_neg c8] at H
        exact absurd H (by simp)
      ·rw [if_neg c7] at H
       have c7b0:decide (x3_2 < (l0.length:Int)) = false:=decide_eq_false c7
       clear c7
       obtain ⟨ji13,hji13⟩:∃ j_:Int,(wrap64 ((l0.length:Int) - 1)) = j_:=⟨_,rfl⟩
       replace H:(if 0 ≤ (ji13) then (if (ji13) < (l0.length:Int) then (some (decide ((rd l0 (ji13)) ≤ 40))) else (none)) else (none)) = some r:=by first|(rw [hji13] at H;exact H)|(simp only [hji13] at H ⊢;exact H)
       have hji13w:(IntKind.i64.wrap ((l0.length:Int) - 1)) = ji13:=(i64_w _).trans hji13
       by_cases c14:0 ≤ (ji13)
       ·rw [if_pos c14] at H
        have c14b0:decide (0 ≤ (ji13)) = true:=decide_eq_true c14
        clear c14
        by_cases c15:(ji13) < (l0.length:Int)
        ·rw [if_pos c15] at H
         have c15b0:decide ((ji13) < (l0.length:Int)) = true:=decide_eq_true c15
         clear c15
         obtain rfl:=Option.some.inj H
         have p417:0 ≤ ((ji13):Int):=of_decide_eq_true (by first|(with_reducible assumption)|assumption)
         have q417:(ji13) < (l0.length:Int):=of_decide_eq_true (by first|(with_reducible assumption)|assumption)
         obtain ⟨ad417,e417,hx417_0⟩:=Kd.at_int HR0.out (ji13) p417 q417
         cases e417
         replace p417:=eq_true p417
         replace q417:=eq_true q417
         go_wp2
         repeat (go_quiet (fail);try go_wp2)
         go_ret
         exact ⟨by first|rfl|(simp;done)|(simp only [← hji13] <;> (first|rfl|simp))|(simp [*];done),by repeat (first|exact Drawn0.refl _|apply Drawn0.step)⟩
        ·rw [if_neg c15] at H
         exact absurd H (by simp)
       ·rw [if_neg c14] at H
        exact absurd H (by simp)
def spec_l02Repeated.l0:Nat → List Int → Int → List Int → Int → Option (List Int)
 | 0,_,_,_,_=>none
 | k + 1,x0,x1,x5,x6=>if x6 < x1 then (if (x0.length:Int) = 0 then (none) else (if 0 ≤ (Int.tmod x6 (x0.length:Int)) then (if (Int.tmod x6 (x0.length:Int)) < (x0.length:Int) then (if x5.length < 140737488355328 then (spec_l02Repeated.l0 k x0 x1 (x5 ++ [rd x0 (Int.tmod x6 (x0.length:Int))]) (wrap64 (x6 + 1))) else (none)) else (none)) else (none))) else (some x5)
def spec_l02Repeated.f (k:Nat) (l0:List Int) (a1:Int):Option (List Int):=spec_l02Repeated.l0 k l0 a1 (([]:List Int)) 0
theorem spec_l02Repeated.mono_l:∀ k,(∀ y0 y1 y2 y3,LeO (spec_l02Repeated.l0 k y0 y1 y2 y3) (spec_l02Repeated.l0 (k + 1) y0 y1 y2 y3))
 | 0=>fun _ _ _ _ r h=>by simp [spec_l02Repeated.l0] at h
 | k + 1=>by
  have ih0:=spec_l02Repeated.mono_l k
  ·intro y0 y1 y2 y3
   unfold spec_l02Repeated.l0
   repeat' first
   | (with_reducible exact ih0 _ _ _ _)
   | (with_reducible exact LeO.refl _)
   | (with_reducible exact LeO.none _)
   | (with_reducible refine LeO.ite ?_ ?_)
   | (with_reducible refine LeO.bind ?_ (fun _=>?_))
   | exact ih0 _ _ _ _
   | exact LeO.none _
   | refine LeO.ite ?_ ?_
   | refine LeO.bind ?_ (fun _=>?_)
theorem spec_l02Repeated.mono:∀ a0 a1 k,LeO (spec_l02Repeated.f k a0 a1) (spec_l02Repeated.f (k + 1) a0 a1):=by
 intro a0 a1 k
 have ih0:=spec_l02Repeated.mono_l k
 unfold spec_l02Repeated.f
 repeat' first
   | (with_reducible exact ih0 _ _ _ _)
   | (with_reducible exact LeO.refl _)
   | (with_reducible exact LeO.none _)
   | (with_reducible refine LeO.ite ?_ ?_)
   | (with_reducible refine LeO.bind ?_ (fun _=>?_))
   | exact ih0 _ _ _ _
   | exact LeO.none _
   | refine LeO.ite ?_ ?_
   | refine LeO.bind ?_ (fun _=>?_)
set_option maxHeartbeats 8000000 in
set_option maxRecDepth 100000 in
theorem spec_l02Repeated.calls (k:Nat) (A0:Option Addr) (c0:Nat) (l0:List Int) (a1:Int) (r:List Int) (w:World) (hr0:Kd.C (Kd.int .u8) w A0 l0.length l0) (hc0:l0.length ≤ c0) (h:spec_l02Repeated.f k l0 a1 = some r) :
  Calls Try.prog 30 #[.slice A0 l0.length c0,.int .i64 a1] w fun e w'=>∃ v0_:Value,e = .returned (v0_) ∧ Kd.R (Kd.int .u8) 5 w' w.heap.size (fun _=>True) v0_ r ∧ Below w.heap.size w w':=by
 have HR0:=aM hr0
 have HC0:=aM hc0
 clear hr0 hc0
 have HB:=aM (Below.refl w.heap.size w)
 have H:(spec_l02Repeated.l0 k l0 a1 (([]:List Int)) 0) = some r:=h
 clear h
 obtain ⟨y418,hy418⟩:∃ y_:List Int,y_ = (([]:List Int)):=⟨_,rfl⟩
 replace H:(spec_l02Repeated.l0 k l0 a1 y418 0) = some r:=by first|(rw [hy418];with_reducible exact H)|(have H2_:=(Option.bind_some _ _).symm.trans H;rw [hy418];with_reducible exact H2_)|(have H2_:=(Option.bind_some _ _).symm.trans H;with_reducible exact H2_)|with_reducible exact H|(rw [hy418];exact H)|exact H
 have Ny418:=aM hy418
 clear hy418
 have H':=aM H
 clear H
 go_enter Try.func30,Try.ntmps30
 go_wp2_with (first|((with_reducible refine gate_dst (N:=7) rfl ?_);refine Kd.R_lit (Kd.int .u8) _ 5 ?hg (N:=7) ?hd (xs:=([]:List Int)) (inner:=[]) (ok:=fun _=>True) (okp:=fun _=>True) ?hr ?hp (fun _ hk=>hk) trivial (Below.refl _ _) (Nat.le_refl _) (by simp) ?_;(case hd=>rfl);(case hg=>rfl);(case hr=>first|(go_simp;done)|(go_simp;rfl));(case hp=>exact (Reps.none _ _));intro v419 w3 ho4 hb hg_ hnew_;clear hg_ hnew_;(first|rw [← Ny418.out] at ho4|(simp only [Int.reduceToNat] at ho4;rw [← Ny418.out] at ho4));have HO420:=aM (Kd.R_lower ho4 (below_size (by repeat (first|(with_reducible first|exact HB.out|apply zA|apply zN|apply zD)|exact HB.out))));replace HB:=aM (below_step (by repeat (first|(with_reducible first|exact HB.out|apply zA|apply zN|apply zD)|exact HB.out)) hb);clear hb ho4))
 go_loopg [5,6] k (fun kq v5 v6 w'=>∃ (x5_1:List Int) (x6_1:Int),v6 = .int .i64 x6_1 ∧ Aside0 (spec_l02Repeated.l0 kq l0 a1 x5_1 x6_1 = some r) ∧ Aside0 (kq ≤ k) ∧ Aside0 (Kd.R (Kd.int .u8) 5 w' w.heap.size (fun _=>True) v5 x5_1) ∧ Aside0 (Below w.heap.size w w'))
 case atStart=>exact ⟨(y418),(0),(by first|rfl|(simp;done)|(simp [*];done)),H',⟨Nat.le_refl _⟩,⟨by (with_reducible repeat (first|apply rA|apply rN|apply rD));exact HO420.out⟩,⟨by repeat (first|(with_reducible first|exact HB.out|apply zA|apply zN|apply zD)|exact HB.out)⟩⟩
 case round =>
  clear H'
  try clear p2
  try clear c3
  obtain ⟨x5_1,x6_1,rfl,HA,HK1,HO_5,HB⟩:=hrel
  cases gk with
  | zero=>exact absurd HA.out (by simp [spec_l02Repeated.l0])
  | succ k1 =>
   have H:=HA.out
   clear HA
   simp only [spec_l02Repeated.l0] at H
   by_cases c5:x6_1 < a1
   ·rw [if_pos c5] at H
    have c5b0:decide (x6_1 < a1) = true:=decide_eq_true c5
    clear c5
    by_cases c6:(l0.length:Int) = 0
    ·rw [if_pos c6] at H
     exact absurd H (by simp)
    ·rw [if_neg c6] at H
     have c6b0:((l0.length:Int) == 0) = false:=beq_eq_false_iff_ne.mpr c6
     have c6b1:((l0.length:Int) != 0) = true:=bne_iff_ne.mpr c6
     have c6b2:¬ (l0 = []):=fun h_=>c6 (by rw [h_];rfl)
     obtain ⟨ji7,hji7⟩:∃ j_:Int,(Int.tmod x6_1 (l0.length:Int)) = j_:=⟨_,rfl⟩
     replace H:(if 0 ≤ (ji7) then (if (ji7) < (l0.length:Int) then (if x5_1.length < 140737488355328 then (spec_l02Repeated.l0 k1 l0 a1 (x5_1 ++ [rd l0 (ji7)]) (wrap64 (x6_1 + 1))) else (none)) else (none)) else (none)) = some r:=by first|(rw [hji7] at H;exact H)|(simp only [hji7] at H ⊢;exact H)
     by_cases c8:0 ≤ (ji7)
     ·rw [if_pos c8] at H
      have c8b0:decide (0 ≤ (ji7)) = true:=decide_eq_true c8
      clear c8
      by_cases c9:(ji7) < (l0.length:Int)
      ·rw [if_pos c9] at H
       have c9b0:decide ((ji7) < (l0.length:Int)) = true:=decide_eq_true c9
       clear c9
       by_cases c10:x5_1.length < 140737488355328
       ·rw [if_pos c10] at H
        have LMc10:=aM c10
        clear c10
        obtain ⟨y422,hy422⟩:∃ y_:List Int,y_ = (x5_1 ++ [rd l0 (ji7)]):=⟨_,rfl⟩
        replace H:(spec_l02Repeated.l0 k1 l0 a1 y422 (wrap64 (x6_1 + 1))) = some r:=by first|(rw [hy422];with_reducible exact H)|(have H2_:=(Option.bind_some _ _).symm.trans H;rw [hy422];with_reducible exact H2_)|(have H2_:=(Option.bind_some _ _).symm.trans H;with_reducible exact H2_)|with_reducible exact H|(rw [hy422];exact H)|exact H
        have Ny422:=aM hy422
        clear hy422
        have H':=aM H
        clear H
        have p421:0 ≤ ((ji7):Int):=of_decide_eq_true (by first|(with_reducible assumption)|assumption)
        have q421:(ji7) < (l0.length:Int):=of_decide_eq_true (by first|(with_reducible assumption)|assumption)
        obtain ⟨ad421,e421,hx421_0⟩:=Kd.at_int HR0.out (ji7) p421 q421
        cases e421
        replace hx421_0:=(HB.out.cell (World.block_lt_of_cell? w _ hx421_0)).trans hx421_0
        replace p421:=eq_true p421
        replace q421:=eq_true q421
        go_wp2_with (first|((with_reducible refine gate_builtin (b:=.append) (xs:=#[.tmp 13,.tmp 21]) rfl ?_);at_builtin;refine Kd.R_append (Kd.int .u8) (w0:=w) w.heap.size rfl (.tmp 13) (.tmp 21) 22 5 (.int .u8 0) 1 rfl Try.underlying22 info5 rfl (by decide) (by omega) u5 x5_1 (rd l0 (ji7)) [.int .u8 (rd l0 (ji7))] (fun _=>True) (fun _=>False) rfl rfl ?aP (fun _ hk=>hk.elim) ?aF ?aO ?aB ?aS ?aL ?_;(case aP=>exact rfl);(case aB=>exact (by repeat (first|(with_reducible first|exact HB.out|apply zA|apply zN|apply zD)|exact HB.out)));(case aF=>exact (fun _ _=>trivial));(case aO=>exact (by (with_reducible repeat (first|apply rA|apply rN|apply rD));exact HO_5.out));(case aS=>exact (below_size (by repeat (first|(with_reducible first|exact HB.out|apply zA|apply zN|apply zD)|exact HB.out))));(case aL=>have:=LMc10.out;omega);intro v423 w11 ho hb hg hat;rw [← Ny422.out] at ho;have n0_:=aM (hb);have n1_:=aM (ho);clear HB;clear HO_5;have HB:=n0_;have HO424:=n1_;clear n0_ n1_;clear ho hb hg hat))
        go_roundg k1
        case measure=>have:=HK1.out;omega
        case rel=>exact ⟨(y422),(wrap64 (x6_1 + 1)),(by first|rfl|(simp;done)|(simp [*];done)),H',⟨by have:=HK1.out;omega⟩,⟨by (with_reducible repeat (first|apply rA|apply rN|apply rD));exact HO424.out⟩,⟨by repeat (first|(with_reducible first|exact HB.out|apply zA|apply zN|apply zD)|exact HB.out)⟩⟩
       ·rw [if_neg c10] at H
        exact absurd H (by simp)
      ·rw [if_neg c9] at H
       exact absurd H (by simp)
     ·rw [if_neg c8] at H
      exact absurd H (by simp)
   ·rw [if_neg c5] at H
    have c5b0:decide (x6_1 < a1) = false:=decide_eq_false c5
    clear c5
    obtain rfl:=Option.some.inj H
    go_wp2
    go_ret
    exact ⟨_,by first|rfl|(simp [errW_none,errW_some] <;> rfl)|(simp [*,errW_none,errW_some] <;> rfl),by (with_reducible repeat (first|apply rA|apply rN|apply rD));exact HO_5.out,by repeat (first|(with_reducible first|exact HB.out|apply zA|apply zN|apply zD)|exact HB.out)⟩
def spec_SequenceOfAddress.l0:Nat → List Int → List Int → Int → Option (ByteArray × ByteArray × Int)
 | 0,_,_,_=>none
 | k + 1,x0,x4,x5=>if x5 < (wrap64 ((x0.length:Int) - 1)) then (if 0 ≤ x5 then (if x5 < (x0.length:Int) then ((spec_l02Repeated.f k x4 (rd x0 x5)).bind fun t431=>(if 0 ≤ (wrap64 ((t431.length:Int) - 1)) then (if (wrap64 ((t431.length:Int) - 1)) < (t431.length:Int) then (spec_SequenceOfAddress.l0 k x0 (t431.set ((wrap64 ((t431.length:Int) - 1)):Int).toNat ((97 - (rd t431 (wrap64 ((t431.length:Int) - 1)))) % 256)) (wrap64 (x5 + 1))) else (none)) else (none))) else (none)) else (none)) else (if (x0.length:Int) > 1 then (if 0 ≤ (wrap64 ((x0.length:Int) - 1)) then (if (wrap64 ((x0.length:Int) - 1)) < (x0.length:Int) then ((spec_l02Repeated.f k x4 (rd x0 (wrap64 ((x0.length:Int) - 1)))).bind fun t437=>(if 0 ≤ (wrap64 ((t437.length:Int) - 1)) then (if (wrap64 ((t437.length:Int) - 1)) < (t437.length:Int) then (some ((⟨#[]⟩:ByteArray),strOfNums (t437.set ((wrap64 ((t437.length:Int) - 1)):Int).toNat 42),0)) else (none)) else (none))) else (none)) else (none)) else (if 0 ≤ (wrap64 ((x4.length:Int) - 1)) then (if (wrap64 ((x4.length:Int) - 1)) < (x4.length:Int) then (some ((⟨#[]⟩:ByteArray),strOfNums (x4.set ((wrap64 ((x4.length:Int) - 1)):Int).toNat 42),0)) else (none)) else (none)))
def spec_SequenceOfAddress.f (k:Nat) (l0:List Int):Option (ByteArray × ByteArray × Int):=(spec_l02Address.f k l0).bind fun t426=>(if t426 = true then (spec_SequenceOfAddress.l0 k l0 (([49]:List Int)) 1) else (some ((⟨#[]⟩:ByteArray),(⟨#[]⟩:ByteArray),2)))
theorem spec_SequenceOfAddress.mono_l:∀ k,(∀ y0 y1 y2,LeO (spec_SequenceOfAddress.l0 k y0 y1 y2) (spec_SequenceOfAddress.l0 (k + 1) y0 y1 y2))
 | 0=>fun _ _ _ r h=>by simp [spec_SequenceOfAddress.l0] at h
 | k + 1=>by
  have ih0:=spec_SequenceOfAddress.mono_l k
  ·intro y0 y1 y2
   unfold spec_SequenceOfAddress.l0
   repeat' first
   | (with_reducible exact ih0 _ _ _)
   | (with_reducible exact spec_l02Address.mono _ _)
   | (with_reducible exact spec_l02Repeated.mono _ _ _)
   | (with_reducible exact LeO.refl _)
   | (with_reducible exact LeO.none _)
   | (with_reducible refine LeO.ite ?_ ?_)
   | (with_reducible refine LeO.bind ?_ (fun _=>?_))
   | exact ih0 _ _ _
   | exact spec_l02Address.mono _ _
   | exact spec_l02Repeated.mono _ _ _
   | exact LeO.none _
   | refine LeO.ite ?_ ?_
   | refine LeO.bind ?_ (fun _=>?_)
theorem spec_SequenceOfAddress.mono:∀ a0 k,LeO (spec_SequenceOfAddress.f k a0) (spec_SequenceOfAddress.f (k + 1) a0):=by
 intro a0 k
 have ih0:=spec_SequenceOfAddress.mono_l k
 unfold spec_SequenceOfAddress.f
 repeat' first
   | (with_reducible exact ih0 _ _ _)
   | (with_reducible exact spec_l02Address.mono _ _)
   | (with_reducible exact spec_l02Repeated.mono _ _ _)
   | (with_reducible exact LeO.refl _)
   | (with_reducible exact LeO.none _)
   | (with_reducible refine LeO.ite ?_ ?_)
   | (with_reducible refine LeO.bind ?_ (fun _=>?_))
   | exact ih0 _ _ _
   | exact spec_l02Address.mono _ _
   | exact spec_l02Repeated.mono _ _ _
   | exact LeO.none _
   | refine LeO.ite ?_ ?_
   | refine LeO.bind ?_ (fun _=>?_)
set_option maxHeartbeats 8000000 in
set_option maxRecDepth 100000 in
theorem spec_SequenceOfAddress.calls (k:Nat) (A0:Option Addr) (c0:Nat) (l0:List Int) (r1:ByteArray) (r2:ByteArray) (r3:Int) (w:World) (hr0:Kd.C (Kd.int .i64) w A0 l0.length l0) (hc0:l0.length ≤ c0) (h:spec_SequenceOfAddress.f k l0 = some (r1,r2,r3)) :
  Calls Try.prog 14 #[.slice A0 l0.length c0] w fun e w'=>e = .returned (.tuple #[.agg #[.string r1,.string r2],.int .i64 r3]) ∧ Below w.heap.size w w':=by
 have hu25:=Try.underlying25
 have HR0:=aM hr0
 have HC0:=aM hc0
 clear hr0 hc0
 have HB:=aM (Below.refl w.heap.size w)
 have H:((spec_l02Address.f k l0).bind fun t426=>(if t426 = true then (spec_SequenceOfAddress.l0 k l0 (([49]:List Int)) 1) else (some ((⟨#[]⟩:ByteArray),(⟨#[]⟩:ByteArray),2)))) = some (r1,r2,r3):=h
 clear h
 replace H:=Option.bind_eq_some_iff.mp H
 obtain ⟨t426,A20,H⟩:=H
 replace H:(if t426 = true then (spec_SequenceOfAddress.l0 k l0 (([49]:List Int)) 1) else (some ((⟨#[]⟩:ByteArray),(⟨#[]⟩:ByteArray),2))) = some (r1,r2,r3):=H
 have A2:=aM A20
 clear A20
 by_cases c3:t426 = true
 ·subst c3
  have H1:(spec_SequenceOfAddress.l0 k l0 (([49]:List Int)) 1) = some (r1,r2,r3):=by rw [if_pos rfl] at H;exact H
  clear H
  have H:=H1
  clear H1
  obtain ⟨y427,hy427⟩:∃ y_:List Int,y_ = (([49]:List Int)):=⟨_,rfl⟩
  replace H:(spec_SequenceOfAddress.l0 k l0 y427 1) = some (r1,r2,r3):=by first|(rw [hy427];with_reducible exact H)|(have H2_:=(Option.bind_some _ _).symm.trans H;rw [hy427];with_reducible exact H2_)|(have H2_:=(Option.bind_some _ _).symm.trans H;with_reducible exact H2_)|with_reducible exact H|(rw [hy427];exact H)|exact H
  have Ny427:=aM hy427
  clear hy427
  have H':=aM H
  clear H
  go_enter Try.func14,Try.ntmps14
  go_wp2_with (first|((with_reducible refine gate_dst (N:=2) rfl ?_);refine box_event ?hg (N:=2) ?hd (cs:=#[.string ⟨#[]⟩,.string ⟨#[]⟩]) (t:=25) ?hr ?_;(case hd=>rfl);(case hg=>rfl);(case hr=>first|(go_simp;done)|(go_simp;rfl));intro gb425 hg w4 hbox hb;have n0_:=aM (below_step (by repeat (first|(with_reducible first|exact HB.out|apply zA|apply zN|apply zD)|exact HB.out)) hb);have n1_:=aM (hbox);have n2_:=aM ((by rw [hg];exact (below_size (by repeat (first|(with_reducible first|exact HB.out|apply zA|apply zN|apply zD)|exact HB.out))):w.heap.size ≤ gb425));have n3_:=aM ((by rw [hg];exact (below_size (by repeat (first|(with_reducible first|exact HB.out|apply zA|apply zN|apply zD)|exact HB.out))):w.heap.size ≤ gb425));clear HB;have HB:=n0_;have BK425:=n1_;have GW425:=n2_;have GE425:=n3_;clear n0_ n1_ n2_ n3_;clear hb hbox hg)|((with_reducible refine gate_callee (f:=29) rfl ?_);refine goesL_ (some 8) rfl rfl Try.func29 (by kernel_rfl) rfl #[.slice A0 l0.length c0] rfl (by (try simp only [sM,sC,sN]);first|done|rfl|(simp only [List.length_drop,List.length_take];rfl)) ?_;(with_reducible refine (spec_l02Address.calls k _ _ l0 true _ ?side1 ?side2 A2.out).mono ?_);(case side1=>repeat (first|exact (Kd.C_below HR0.out HB.out)|(with_reducible refine cA ?_ _)|(with_reducible refine cN ?_ _)|(with_reducible refine cD ?_)));(case side2=>exact HC0.out);rintro e w' ⟨rfl,⟨nd,rfl⟩⟩;refine ⟨_,rfl,?_⟩)|((with_reducible refine gate_dst (N:=11) rfl ?_);refine Kd.R_lit (Kd.int .u8) _ 5 ?hg (N:=11) ?hd (xs:=([49]:List Int)) (inner:=[.int .u8 49]) (ok:=fun _=>True) (okp:=fun _=>True) ?hr ?hp (fun _ hk=>hk) trivial (Below.refl _ _) (Nat.le_refl _) (by simp) ?_;(case hd=>rfl);(case hg=>rfl);(case hr=>first|(go_simp;done)|(go_simp;rfl));(case hp=>exact (Reps.one (show Kd.M (Kd.int .u8) _ _ _ 49 [.int .u8 49] from rfl) (Reps.none _ _)));intro v428 w5 ho6 hb hg_ hnew_;clear hg_ hnew_;(first|rw [← Ny427.out] at ho6|(simp only [Int.reduceToNat] at ho6;rw [← Ny427.out] at ho6));have HO429:=aM (Kd.R_lower ho6 (below_size (by repeat (first|(with_reducible first|exact HB.out|apply zA|apply zN|apply zD|refine zS ?_ GE425.out)|exact HB.out))));replace BK425:=aM (blk_below (g:=gb425) (o:=.cells #[.string ⟨#[]⟩,.string ⟨#[]⟩] 25 (0,0)) (by (with_reducible repeat (first|apply yN|apply yD|apply yA));exact BK425.out) hb);replace HB:=aM (below_step (by repeat (first|(with_reducible first|exact HB.out|apply zA|apply zN|apply zD|refine zS ?_ GE425.out)|exact HB.out)) hb);clear hb ho6))
  go_loopg [4,5] k (fun kq v4 v5 w'=>∃ (x4_1:List Int) (x5_1:Int),v5 = .int .i64 x5_1 ∧ Aside0 (spec_SequenceOfAddress.l0 kq l0 x4_1 x5_1 = some (r1,r2,r3)) ∧ Aside0 (kq ≤ k) ∧ Aside0 (Kd.R (Kd.int .u8) 5 w' w.heap.size (fun _=>True) v4 x4_1) ∧ Aside0 (w'.heap[gb425]? = some (.cells #[.string ⟨#[]⟩,.string ⟨#[]⟩] 25 (0,0))) ∧ Aside0 (Below w.heap.size w w'))
  case atStart=>exact ⟨(y427),(1),(by first|rfl|(simp;done)|(simp [*];done)),H',⟨Nat.le_refl _⟩,⟨by (with_reducible repeat (first|apply rA|apply rN|apply rD));exact HO429.out⟩,⟨by (with_reducible repeat (first|apply yN|apply yD|apply yA));exact BK425.out⟩,⟨by repeat (first|(with_reducible first|exact HB.out|apply zA|apply zN|apply zD|refine zS ?_ GE425.out)|exact HB.out)⟩⟩
  case round =>
   clear H'
   try clear c1
   try clear c2
   try clear p2
   try clear c3
   obtain ⟨x4_1,x5_1,rfl,HA,HK1,HO_4,BK425,HB⟩:=hrel
   cases gk with
   | zero=>exact absurd HA.out (by simp [spec_SequenceOfAddress.l0])
   | succ k1 =>
    have H:=HA.out
    clear HA
    simp only [spec_SequenceOfAddress.l0] at H
    by_cases c7:x5_1 < (wrap64 ((l0.length:Int) - 1))
    ·rw [if_pos c7] at H
     have c7b0:decide (x5_1 < (wrap64 ((l0.length:Int) - 1))) = true:=decide_eq_true c7
     clear c7
     by_cases c8:0 ≤ x5_1
     ·rw [if_pos c8] at H
      have c8b0:decide (0 ≤ x5_1) = true:=decide_eq_true c8
      clear c8
      by_cases c9:x5_1 < (l0.length:Int)
      ·rw [if_pos c9] at H
       have c9b0:decide (x5_1 < (l0.length:Int)) = true:=decide_eq_true c9
       clear c9
       replace H:=Option.bind_eq_some_iff.mp H
       obtain ⟨t431,A100,H⟩:=H
       replace H:(if 0 ≤ (wrap64 ((t431.length:Int) - 1)) then (if (wrap64 ((t431.length:Int) - 1)) < (t431.length:Int) then (spec_SequenceOfAddress.l0 k1 l0 (t431.set ((wrap64 ((t431.length:Int) - 1)):Int).toNat ((97 - (rd t431 (wrap64 ((t431.length:Int) - 1)))) % 256)) (wrap64 (x5_1 + 1))) else (none)) else (none)) = some (r1,r2,r3):=H
       have A10:=aM A100
       clear A100
       obtain ⟨ji11,hji11⟩:∃ j_:Int,(wrap64 ((t431.length:Int) - 1)) = j_:=⟨_,rfl⟩
       replace H:(if 0 ≤ (ji11) then (if (ji11) < (t431.length:Int) then (spec_SequenceOfAddress.l0 k1 l0 (t431.set ((ji11):Int).toNat ((97 - (rd t431 (ji11))) % 256)) (wrap64 (x5_1 + 1))) else (none)) else (none)) = some (r1,r2,r3):=by first|(rw [hji11] at H;exact H)|(simp only [hji11] at H ⊢;exact H)
       (try rw [hji11] at A10)
       have hji11w:(IntKind.i64.wrap ((t431.length:Int) - 1)) = ji11:=(i64_w _).trans hji11
       by_cases c12:0 ≤ (ji11)
       ·rw [if_pos c12] at H
        have c12b0:decide (0 ≤ (ji11)) = true:=decide_eq_true c12
        clear c12
        by_cases c13:(ji11) < (t431.length:Int)
        ·rw [if_pos c13] at H
         have c13b0:decide ((ji11) < (t431.length:Int)) = true:=decide_eq_true c13
         clear c13
         obtain ⟨y435,hy435⟩:∃ y_:List Int,y_ = (t431.set ((ji11):Int).toNat ((97 - (rd t431 (ji11))) % 256)):=⟨_,rfl⟩
         replace H:(spec_SequenceOfAddress.l0 k1 l0 y435 (wrap64 (x5_1 + 1))) = some (r1,r2,r3):=by first|(rw [hy435];with_reducible exact H)|(have H2_:=(Option.bind_some _ _).symm.trans H;rw [hy435];with_reducible exact H2_)|(have H2_:=(Option.bind_some _ _).symm.trans H;with_reducible exact H2_)|with_reducible exact H|(rw [hy435];exact H)|exact H
         have Ny435:=aM hy435
         clear hy435
         have H':=aM H
         clear H
         have p430:0 ≤ (x5_1:Int):=of_decide_eq_true (by first|(with_reducible assumption)|assumption)
         have q430:x5_1 < (l0.length:Int):=of_decide_eq_true (by first|(with_reducible assumption)|assumption)
         obtain ⟨ad430,e430,hx430_0⟩:=Kd.at_int HR0.out x5_1 p430 q430
         cases e430
         replace hx430_0:=(HB.out.cell (World.block_lt_of_cell? w _ hx430_0)).trans hx430_0
         replace p430:=eq_true p430
         replace q430:=eq_true q430
         obtain ⟨Ao15,co15,eo15⟩:=Kd.R_slice HO_4.out
         subst eo15
         go_wp2_with (first|((with_reducible refine gate_callee (f:=30) rfl ?_);refine goesL_ (some 24) rfl rfl Try.func30 (by kernel_rfl) rfl #[.slice Ao15 x4_1.length co15,.int .i64 (rd l0 x5_1)] rfl (by (try simp only [sM,sC,sN]);first|done|rfl|(simp only [List.length_drop,List.length_take];rfl)) ?_;(with_reducible refine (spec_l02Repeated.calls k1 _ _ x4_1 (rd l0 x5_1) t431 _ ?side1 ?side2 A10.out).mono ?_);(case side1=>repeat (first|exact (Kd.R_reads' HO_4.out).2.2|(with_reducible refine cA ?_ _)|(with_reducible refine cN ?_ _)|(with_reducible refine cD ?_)));(case side2=>exact (Kd.R_reads' HO_4.out).2.1);rintro e w16 ⟨v432,rfl,ho0,hb⟩;refine ⟨_,rfl,?_⟩;have n0_:=aM (Kd.R_elder' HO_4.out (Kd.R_base ho0) hb);have n1_:=aM (Kd.R_lower (Kd.R_new' ho0 (Kd.R_lt HO_4.out)) (below_size HB.out));have n2_:=aM (blk_below (g:=gb425) (o:=.cells #[.string ⟨#[]⟩,.string ⟨#[]⟩] 25 (0,0)) BK425.out hb);have n3_:=aM (below_step HB.out hb);clear HO_4;clear BK425;clear HB;have HO_4:=n0_;have HO433:=n1_;have BK425:=n2_;have HB:=n3_;clear n0_ n1_ n2_ n3_;(try clear hb);(try clear hb2);(try clear hk);(try clear hi);(try clear ho0);obtain ⟨Ao17,co17,eo17⟩:=Kd.R_slice HO433.out;subst eo17;have p434:0 ≤ ((ji11):Int):=of_decide_eq_true (by first|(with_reducible assumption)|assumption);have q434:(ji11) < (t431.length:Int):=of_decide_eq_true (by first|(with_reducible assumption)|assumption);obtain ⟨ad434,e434,hx434_0⟩:=Kd.at_int (Kd.R_reads' HO433.out).2.2 (ji11) p434 q434;cases e434;replace p434:=eq_true p434;replace q434:=eq_true q434;have p14:0 ≤ ((ji11):Int):=of_decide_eq_true (by first|(with_reducible assumption)|assumption);have q14:((ji11):Int) < ((t431.length:Int):Int):=of_decide_eq_true (by first|(with_reducible assumption)|assumption);obtain ⟨go14,co14,eo14,gb14,gl14,cl14,HG14⟩:=Kd.R_form HO433.out (by omega);(first|cases eo14|(injection eo14 with ea_ en_ ec_;(first|subst ea_|(injection ea_ with ea_;subst ea_));subst ec_;clear en_));have GB14:=aM gb14;have GG14:=aM HG14;clear gb14 gl14 HG14;(first|simp only [add_plain] at hx434_0|skip);obtain ⟨hx14_0,hf14_0⟩:=Kd.R_celln 0 HO433.out ((ji11):Int) p14 q14;replace p14:=eq_true p14;replace q14:=eq_true q14;have n_:=aM (Kd.R_mono (ok':=(fun k_=>some k_ ≠ (.slice Ao15 x4_1.length co15:Value).ownBlock)) HO433.out (fun k_ hk=>hk.2));clear HO433;have HO433:=n_;clear n_;obtain ⟨hy18_,hz18_⟩:=Kd.R_celln 0 HO433.out ((ji11):Int) (of_decide_eq_true (by first|(with_reducible assumption)|assumption)) (of_decide_eq_true (by first|(with_reducible assumption)|assumption));have HP18:=Kd.R_putg HO433.out ((ji11):Int) ((97 - (rd t431 (ji11))) % 256))|((with_reducible refine gate_store (t:=5) (p:=35) rfl ?_);refine store_event (t:=5) (p:=35) (v:=?vo_w19) (w1:=(w16.setCell ⟨go14,((ji11):Int).toNat,none⟩ (.int .u8 ((97 - (rd t431 (ji11))) % 256)))) ?hg ?ho ?hn ?hr ?_;(case ho=>rfl);(case hg=>rfl);(case hn=>rfl);(case hr=>first|(go_simp;done)|(go_simp;rfl));intro w19 hw;have hg:w16.grownBy w19 (some go14):=(by rw [hw];exact HP18.2);have hp_:Kd.R (Kd.int .u8) 5 w19 w.heap.size (fun k_=>some k_ ≠ (.slice Ao15 x4_1.length co15:Value).ownBlock) (.slice (some ⟨go14,0,none⟩) t431.length co17) y435:=(by rw [hw,Ny435.out];exact HP18.1);clear HP18;replace HO_4:=aM (Kd.R_after (v:=(.slice (some ⟨go14,0,none⟩) t431.length co17)) (v1:=(.slice (some ⟨go14,0,none⟩) t431.length co17)) (ok:=(fun _=>True)) HO_4.out hg (.inl rfl));replace BK425:=aM (blk_grown (g:=gb425) (o:=.cells #[.string ⟨#[]⟩,.string ⟨#[]⟩] 25 (0,0)) BK425.out hg (Kd.R_ne HO433.out BK425.out (by decide)));replace HO433:=aM (hp_);replace HB:=aM ((by rw [hw];exact zS (HB.out) GB14.out:Below w.heap.size w w19));clear hg hw hp_))
         go_roundg k1
         case measure=>have:=HK1.out;omega
         case rel=>exact ⟨(y435),(wrap64 (x5_1 + 1)),(by first|rfl|(simp;done)|(simp [*];done)),H',⟨by have:=HK1.out;omega⟩,⟨by (with_reducible repeat (first|apply rA|apply rN|apply rD));exact Kd.R_mono HO433.out (fun _ hk=>trivial)⟩,⟨BK425.out⟩,⟨HB.out⟩⟩
        ·rw [if_neg c13] at H
         exact absurd H (by simp)
       ·rw [if_neg c12] at H
        exact absurd H (by simp)
      ·rw [if_neg c9] at H
       exact absurd H (by simp)
     ·rw [if_neg c8] at H
      exact absurd H (by simp)
    ·rw [if_neg c7] at H
     have c7b0:decide (x5_1 < (wrap64 ((l0.length:Int) - 1))) = false:=decide_eq_false c7
     clear c7
     by_cases c20:(l0.length:Int) > 1
     ·rw [if_pos c20] at H
      have c20b0:decide (1 < (l0.length:Int)) = true:=decide_eq_true c20
      have c20b1:decide (1 < l0.length) = true:=decide_eq_true (by omega)
      clear c20
      obtain ⟨ji21,hji21⟩:∃ j_:Int,(wrap64 ((l0.length:Int) - 1)) = j_:=⟨_,rfl⟩
      replace H:(if 0 ≤ (ji21) then (if (ji21) < (l0.length:Int) then ((spec_l02Repeated.f k1 x4_1 (rd l0 (ji21))).bind fun t437=>(if 0 ≤ (wrap64 ((t437.length:Int) - 1)) then (if (wrap64 ((t437.length:Int) - 1)) < (t437.length:Int) then (some ((⟨#[]⟩:ByteArray),strOfNums (t437.set ((wrap64 ((t437.length:Int) - 1)):Int).toNat 42),0)) else (none)) else (none))) else (none)) else (none)) = some (r1,r2,r3):=by first|(rw [hji21] at H;exact H)|(simp only [hji21] at H ⊢;exact H)
      (try rw [hji21] at c7b0)
      have hji21w:(IntKind.i64.wrap ((l0.length:Int) - 1)) = ji21:=(i64_w _).trans hji21
      by_cases c22:0 ≤ (ji21)
      ·rw [if_pos c22] at H
       have c22b0:decide (0 ≤ (ji21)) = true:=decide_eq_true c22
       clear c22
       by_cases c23:(ji21) < (l0.length:Int)
       ·rw [if_pos c23] at H
        have c23b0:decide ((ji21) < (l0.length:Int)) = true:=decide_eq_true c23
        clear c23
        replace H:=Option.bind_eq_some_iff.mp H
        obtain ⟨t437,A240,H⟩:=H
        replace H:(if 0 ≤ (wrap64 ((t437.length:Int) - 1)) then (if (wrap64 ((t437.length:Int) - 1)) < (t437.length:Int) then (some ((⟨#[]⟩:ByteArray),strOfNums (t437.set ((wrap64 ((t437.length:Int) - 1)):Int).toNat 42),0)) else (none)) else (none)) = some (r1,r2,r3):=H
        have A24:=aM A240
        clear A240
        obtain ⟨ji25,hji25⟩:∃ j_:Int,(wrap64 ((t437.length:Int) - 1)) = j_:=⟨_,rfl⟩
        replace H:(if 0 ≤ (ji25) then (if (ji25) < (t437.length:Int) then (some ((⟨#[]⟩:ByteArray),strOfNums (t437.set ((ji25):Int).toNat 42),0)) else (none)) else (none)) = some (r1,r2,r3):=by first|(rw [hji25] at H;exact H)|(simp only [hji25] at H ⊢;exact H)
        (try rw [hji25] at A24)
        have hji25w:(IntKind.i64.wrap ((t437.length:Int) - 1)) = ji25:=(i64_w _).trans hji25
        by_cases c26:0 ≤ (ji25)
        ·rw [if_pos c26] at H
         have c26b0:decide (0 ≤ (ji25)) = true:=decide_eq_true c26
         clear c26
         by_cases c27:(ji25) < (t437.length:Int)
         ·rw [if_pos c27] at H
          have c27b0:decide ((ji25) < (t437.length:Int)) = true:=decide_eq_true c27
          clear c27
          obtain ⟨y440,hy440⟩:∃ y_:List Int,y_ = (t437.set ((ji25):Int).toNat 42):=⟨_,rfl⟩
          replace H:(some ((⟨#[]⟩:ByteArray),strOfNums y440,0)) = some (r1,r2,r3):=by first|(rw [hy440];with_reducible exact H)|(have H2_:=(Option.bind_some _ _).symm.trans H;rw [hy440];with_reducible exact H2_)|(have H2_:=(Option.bind_some _ _).symm.trans H;with_reducible exact H2_)|with_reducible exact H|(rw [hy440];exact H)|exact H
          have Ny440:=aM hy440
          clear hy440
          simp only [Option.some.injEq,Prod.mk.injEq] at H
          obtain ⟨rfl,rfl,rfl⟩:=H
          have p436:0 ≤ ((ji21):Int):=of_decide_eq_true (by first|(with_reducible assumption)|assumption)
          have q436:(ji21) < (l0.length:Int):=of_decide_eq_true (by first|(with_reducible assumption)|assumption)
          obtain ⟨ad436,e436,hx436_0⟩:=Kd.at_int HR0.out (ji21) p436 q436
          cases e436
          replace hx436_0:=(HB.out.cell (World.block_lt_of_cell? w _ hx436_0)).trans hx436_0
          replace p436:=eq_true p436
          replace q436:=eq_true q436
          obtain ⟨Ao29,co29,eo29⟩:=Kd.R_slice HO_4.out
          subst eo29
          go_wp2_with (first|((with_reducible refine gate_callee (f:=30) rfl ?_);refine goesL_ (some 46) rfl rfl Try.func30 (by kernel_rfl) rfl #[.slice Ao29 x4_1.length co29,.int .i64 (rd l0 (ji21))] rfl (by (try simp only [sM,sC,sN]);first|done|(simp only [hji21];rfl)|rfl|(simp only [List.length_drop,List.length_take];rfl)) ?_;(with_reducible refine (spec_l02Repeated.calls k1 _ _ x4_1 (rd l0 (ji21)) t437 _ ?side1 ?side2 A24.out).mono ?_);(case side1=>repeat (first|exact (Kd.R_reads' HO_4.out).2.2|(with_reducible refine cA ?_ _)|(with_reducible refine cN ?_ _)|(with_reducible refine cD ?_)));(case side2=>exact (Kd.R_reads' HO_4.out).2.1);rintro e w30 ⟨v438,rfl,ho0,hb⟩;refine ⟨_,rfl,?_⟩;have n0_:=aM (Kd.R_elder' HO_4.out (Kd.R_base ho0) hb);have n1_:=aM (Kd.R_lower (Kd.R_new' ho0 (Kd.R_lt HO_4.out)) (below_size HB.out));have n2_:=aM (blk_below (g:=gb425) (o:=.cells #[.string ⟨#[]⟩,.string ⟨#[]⟩] 25 (0,0)) BK425.out hb);have n3_:=aM (below_step HB.out hb);clear HO_4;clear BK425;clear HB;have HO_4:=n0_;have HO439:=n1_;have BK425:=n2_;have HB:=n3_;clear n0_ n1_ n2_ n3_;(try clear hb);(try clear hb2);(try clear hk);(try clear hi);(try clear ho0);obtain ⟨Ao31,co31,eo31⟩:=Kd.R_slice HO439.out;subst eo31;have p28:0 ≤ ((ji25):Int):=of_decide_eq_true (by first|(with_reducible assumption)|assumption);have q28:((ji25):Int) < ((t437.length:Int):Int):=of_decide_eq_true (by first|(with_reducible assumption)|assumption);obtain ⟨go28,co28,eo28,gb28,gl28,cl28,HG28⟩:=Kd.R_form HO439.out (by omega);(first|cases eo28|(injection eo28 with ea_ en_ ec_;(first|subst ea_|(injection ea_ with ea_;subst ea_));subst ec_;clear en_));have GB28:=aM gb28;have GG28:=aM HG28;clear gb28 gl28 HG28;obtain ⟨hx28_0,hf28_0⟩:=Kd.R_celln 0 HO439.out ((ji25):Int) p28 q28;replace p28:=eq_true p28;replace q28:=eq_true q28;have n_:=aM (Kd.R_mono (ok':=(fun k_=>some k_ ≠ (.slice Ao29 x4_1.length co29:Value).ownBlock)) HO439.out (fun k_ hk=>hk.2));clear HO439;have HO439:=n_;clear n_;obtain ⟨hy32_,hz32_⟩:=Kd.R_celln 0 HO439.out ((ji25):Int) (of_decide_eq_true (by first|(with_reducible assumption)|assumption)) (of_decide_eq_true (by first|(with_reducible assumption)|assumption));have HP32:=Kd.R_putg HO439.out ((ji25):Int) 42)|((with_reducible refine gate_store (t:=5) (p:=51) rfl ?_);refine store_event (t:=5) (p:=51) (v:=?vo_w33) (w1:=(w30.setCell ⟨go28,((ji25):Int).toNat,none⟩ (.int .u8 42))) ?hg ?ho ?hn ?hr ?_;(case ho=>rfl);(case hg=>rfl);(case hn=>rfl);(case hr=>first|(go_simp;done)|(go_simp;rfl));intro w33 hw;have hg:w30.grownBy w33 (some go28):=(by rw [hw];exact HP32.2);have hp_:Kd.R (Kd.int .u8) 5 w33 w.heap.size (fun k_=>some k_ ≠ (.slice Ao29 x4_1.length co29:Value).ownBlock) (.slice (some ⟨go28,0,none⟩) t437.length co31) y440:=(by rw [hw,Ny440.out];exact HP32.1);clear HP32;replace HO_4:=aM (Kd.R_after (v:=(.slice (some ⟨go28,0,none⟩) t437.length co31)) (v1:=(.slice (some ⟨go28,0,none⟩) t437.length co31)) (ok:=(fun _=>True)) HO_4.out hg (.inl rfl));replace BK425:=aM (blk_grown (g:=gb425) (o:=.cells #[.string ⟨#[]⟩,.string ⟨#[]⟩] 25 (0,0)) BK425.out hg (Kd.R_ne HO439.out BK425.out (by decide)));replace HO439:=aM (hp_);replace HB:=aM ((by rw [hw];exact zS (HB.out) GB28.out:Below w.heap.size w w33));clear hg hw hp_;have hcv34:=own_string (P:=Try.prog) Try.underlying22 Try.underlying5 Try.underlying9 (Kd.own_of_R HO439.out);have hcz35_0:w33.cell? ⟨gb425,0,none⟩ = some (.string ⟨#[]⟩):=(blk_cell BK425.out 0).trans rfl;have hcz35_1:w33.cell? ⟨gb425,1,none⟩ = some (.string ⟨#[]⟩):=(blk_cell BK425.out 1).trans rfl;have hfz35_0:=blk_frozen BK425.out 0;have hfz35_1:=blk_frozen BK425.out 1))
          refine bodyPost_ret (results_ct rfl _ _ gb425 25 #[.string ⟨#[]⟩,.string (strOfNums y440)] (0,0) _ rfl (by (with_reducible repeat (first|apply yN|apply yD|apply yA));refine blk_put (cs:=#[.string ⟨#[]⟩,.string ⟨#[]⟩]) ?_ 1 _ rfl;(with_reducible repeat (first|apply yN|apply yD|apply yA));refine blk_put (cs:=#[.string ⟨#[]⟩,.string ⟨#[]⟩]) ?_ 0 _ rfl;(with_reducible repeat (first|apply yN|apply yD|apply yA));exact BK425.out) Try.underlying25 rfl (by kernel_rfl)) rfl ?_
          exact ⟨by first|rfl|(simp [errW_none,errW_some] <;> rfl)|(simp only [← hji21,← hji25];first|rfl|(simp [errW_none,errW_some] <;> rfl))|(simp [*,errW_none,errW_some] <;> rfl),by repeat (first|(with_reducible first|exact HB.out|apply zA|apply zN|apply zD|refine zS ?_ GE425.out)|exact HB.out)⟩
         ·rw [if_neg c27] at H
          exact absurd H (by simp)
        ·rw [if_neg c26] at H
         exact absurd H (by simp)
       ·rw [if_neg c23] at H
        exact absurd H (by simp)
      ·rw [if_neg c22] at H
       exact absurd H (by simp)
     ·rw [if_neg c20] at H
      have c20b0:decide (1 < (l0.length:Int)) = false:=decide_eq_false c20
      have c20b1:decide (1 < l0.length) = false:=decide_eq_false (by omega)
      clear c20
      obtain ⟨ji36,hji36⟩:∃ j_:Int,(wrap64 ((x4_1.length:Int) - 1)) = j_:=⟨_,rfl⟩
      replace H:(if 0 ≤ (ji36) then (if (ji36) < (x4_1.length:Int) then (some ((⟨#[]⟩:ByteArray),strOfNums (x4_1.set ((ji36):Int).toNat 42),0)) else (none)) else (none)) = some (r1,r2,r3):=by first|(rw [hji36] at H;exact H)|(simp only [hji36] at H ⊢;exact H)
      have hji36w:(IntKind.i64.wrap ((x4_1.length:Int) - 1)) = ji36:=(i64_w _).trans hji36
      by_cases c37:0 ≤ (ji36)
      ·rw [if_pos c37] at H
       have c37b0:decide (0 ≤ (ji36)) = true:=decide_eq_true c37
       clear c37
       by_cases c38:(ji36) < (x4_1.length:Int)
       ·rw [if_pos c38] at H
        have c38b0:decide ((ji36) < (x4_1.length:Int)) = true:=decide_eq_true c38
        clear c38
        obtain ⟨y441,hy441⟩:∃ y_:List Int,y_ = (x4_1.set ((ji36):Int).toNat 42):=⟨_,rfl⟩
        replace H:(some ((⟨#[]⟩:ByteArray),strOfNums y441,0)) = some (r1,r2,r3):=by first|(rw [hy441];with_reducible exact H)|(have H2_:=(Option.bind_some _ _).symm.trans H;rw [hy441];with_reducible exact H2_)|(have H2_:=(Option.bind_some _ _).symm.trans H;with_reducible exact H2_)|with_reducible exact H|(rw [hy441];exact H)|exact H
        have Ny441:=aM hy441
        clear hy441
        simp only [Option.some.injEq,Prod.mk.injEq] at H
        obtain ⟨rfl,rfl,rfl⟩:=H
        obtain ⟨Ao40,co40,eo40⟩:=Kd.R_slice HO_4.out
        subst eo40
        have p39:0 ≤ ((ji36):Int):=of_decide_eq_true (by first|(with_reducible assumption)|assumption)
        have q39:((ji36):Int) < ((x4_1.length:Int):Int):=of_decide_eq_true (by first|(with_reducible assumption)|assumption)
        obtain ⟨go39,co39,eo39,gb39,gl39,cl39,HG39⟩:=Kd.R_form HO_4.out (by omega)
        (first|cases eo39|(injection eo39 with ea_ en_ ec_;(first|subst ea_|(injection ea_ with ea_;subst ea_));subst ec_;clear en_))
        have GB39:=aM gb39
        have GG39:=aM HG39
        clear gb39 gl39 HG39
        obtain ⟨hx39_0,hf39_0⟩:=Kd.R_celln 0 HO_4.out ((ji36):Int) p39 q39
        replace p39:=eq_true p39
        replace q39:=eq_true q39
        have HP41:=Kd.R_putg HO_4.out ((ji36):Int) 42
        go_wp2_with (first|((with_reducible refine gate_store (t:=5) (p:=51) rfl ?_);refine store_event (t:=5) (p:=51) (v:=?vo_w42) (w1:=(wr.setCell ⟨go39,((ji36):Int).toNat,none⟩ (.int .u8 42))) ?hg ?ho ?hn ?hr ?_;(case ho=>rfl);(case hg=>rfl);(case hn=>rfl);(case hr=>first|(go_simp;done)|(go_simp;rfl));intro w42 hw;have hg:wr.grownBy w42 (some go39):=(by rw [hw];exact HP41.2);have hp_:Kd.R (Kd.int .u8) 5 w42 w.heap.size (fun _=>True) (.slice (some ⟨go39,0,none⟩) x4_1.length co40) y441:=(by rw [hw,Ny441.out];exact HP41.1);clear HP41;have n0_:=aM (hp_);have n1_:=aM (blk_grown (g:=gb425) (o:=.cells #[.string ⟨#[]⟩,.string ⟨#[]⟩] 25 (0,0)) BK425.out hg (Kd.R_ne HO_4.out BK425.out (by decide)));have n2_:=aM ((by rw [hw];exact zS (HB.out) GB39.out:Below w.heap.size w w42));clear HO_4;clear BK425;clear HB;have HO_4:=n0_;have BK425:=n1_;have HB:=n2_;clear n0_ n1_ n2_;clear hg hw hp_;have hcv43:=own_string (P:=Try.prog) Try.underlying22 Try.underlying5 Try.underlying9 (Kd.own_of_R HO_4.out);have hcz44_0:w42.cell? ⟨gb425,0,none⟩ = some (.string ⟨#[]⟩):=(blk_cell BK425.out 0).trans rfl;have hcz44_1:w42.cell? ⟨gb425,1,none⟩ = some (.string ⟨#[]⟩):=(blk_cell BK425.out 1).trans rfl;have hfz44_0:=blk_frozen BK425.out 0;have hfz44_1:=blk_frozen BK425.out 1))
        refine bodyPost_ret (results_ct rfl _ _ gb425 25 #[.string ⟨#[]⟩,.string (strOfNums y441)] (0,0) _ rfl (by (with_reducible repeat (first|apply yN|apply yD|apply yA));refine blk_put (cs:=#[.string ⟨#[]⟩,.string ⟨#[]⟩]) ?_ 1 _ rfl;(with_reducible repeat (first|apply yN|apply yD|apply yA));refine blk_put (cs:=#[.string ⟨#[]⟩,.string ⟨#[]⟩]) ?_ 0 _ rfl;(with_reducible repeat (first|apply yN|apply yD|apply yA));exact BK425.out) Try.underlying25 rfl (by kernel_rfl)) rfl ?_
        exact ⟨by first|rfl|(simp [errW_none,errW_some] <;> rfl)|(simp only [← hji36];first|rfl|(simp [errW_none,errW_some] <;> rfl))|(simp [*,errW_none,errW_some] <;> rfl),by repeat (first|(with_reducible first|exact HB.out|apply zA|apply zN|apply zD|refine zS ?_ GE425.out)|exact HB.out)⟩
       ·rw [if_neg c38] at H
        exact absurd H (by simp)
      ·rw [if_neg c37] at H
       exact absurd H (by simp)
 ·replace c3:=Bool.eq_false_iff.mpr c3
  subst c3
  have H1:(some ((⟨#[]⟩:ByteArray),(⟨#[]⟩:ByteArray),2)) = some (r1,r2,r3):=by rw [if_neg (show ¬ (false = true) by decide)] at H;exact H
  clear H
  have H:=H1
  clear H1
  simp only [Option.some.injEq,Prod.mk.injEq] at H
  obtain ⟨rfl,rfl,rfl⟩:=H
  go_enter Try.func14,Try.ntmps14
  go_wp2_with (first|((with_reducible refine gate_dst (N:=2) rfl ?_);refine box_event ?hg (N:=2) ?hd (cs:=#[.string ⟨#[]⟩,.string ⟨#[]⟩]) (t:=25) ?hr ?_;(case hd=>rfl);(case hg=>rfl);(case hr=>first|(go_simp;done)|(go_simp;rfl));intro gb425 hg w45 hbox hb;have n0_:=aM (below_step HB.out hb);have n1_:=aM (hbox);have n2_:=aM ((by rw [hg];exact (below_size HB.out):w.heap.size ≤ gb425));have n3_:=aM ((by rw [hg];exact (below_size HB.out):w.heap.size ≤ gb425));clear HB;have HB:=n0_;have BK425:=n1_;have GW425:=n2_;have GE425:=n3_;clear n0_ n1_ n2_ n3_;clear hb hbox hg)|((with_reducible refine gate_callee (f:=29) rfl ?_);refine goesL_ (some 8) rfl rfl Try.func29 (by kernel_rfl) rfl #[.slice A0 l0.length c0] rfl (by (try simp only [sM,sC,sN]);first|done|rfl|(simp only [List.length_drop,List.length_take];rfl)) ?_;(with_reducible refine (spec_l02Address.calls k _ _ l0 false _ ?side1 ?side2 A2.out).mono ?_);(case side1=>repeat (first|exact (Kd.C_below HR0.out HB.out)|(with_reducible refine cA ?_ _)|(with_reducible refine cN ?_ _)|(with_reducible refine cD ?_)));(case side2=>exact HC0.out);rintro e w' ⟨rfl,⟨nd,rfl⟩⟩;refine ⟨_,rfl,?_⟩;(try (rw [drewN_self w45];generalize hq_:World.drewN w45 _ = w45;have n0_:Aside0 (w45.heap[gb425]? = some (.cells #[.string ⟨#[]⟩,.string ⟨#[]⟩] 25 (0,0))):=⟨by rw [← hq_];exact BK425.out⟩;have n1_:Aside0 (Below w.heap.size w w45):=⟨by rw [← hq_];exact HB.out⟩;clear BK425 HB hq_;have BK425:=n0_;have HB:=n1_;clear n0_ n1_));have hcz46_0:w45.cell? ⟨gb425,0,none⟩ = some (.string ⟨#[]⟩):=(blk_cell BK425.out 0).trans rfl;have hcz46_1:w45.cell? ⟨gb425,1,none⟩ = some (.string ⟨#[]⟩):=(blk_cell BK425.out 1).trans rfl;have hfz46_0:=blk_frozen BK425.out 0;have hfz46_1:=blk_frozen BK425.out 1))
  refine bodyPost_ret (results_ct rfl _ _ gb425 25 #[.string ⟨#[]⟩,.string ⟨#[]⟩] (0,0) _ rfl (by (with_reducible repeat (first|apply yN|apply yD|apply yA));refine blk_put (cs:=#[.string ⟨#[]⟩,.string ⟨#[]⟩]) ?_ 1 _ rfl;(with_reducible repeat (first|apply yN|apply yD|apply yA));refine blk_put (cs:=#[.string ⟨#[]⟩,.string ⟨#[]⟩]) ?_ 0 _ rfl;(with_reducible repeat (first|apply yN|apply yD|apply yA));exact BK425.out) Try.underlying25 rfl (by kernel_rfl)) rfl ?_
  exact ⟨by first|rfl|(simp [errW_none,errW_some] <;> rfl)|(simp [*,errW_none,errW_some] <;> rfl),by repeat (first|(with_reducible first|exact HB.out|apply zA|apply zN|apply zD|refine zS ?_ GE425.out)|exact HB.out)⟩
def strings_IndexByte.f (a0:ByteArray) (a1:Int):Option Int:=if 0 ≤ a1 then some (Lib.indexByte a0.data.toList a1.toNat.toUInt8) else none
theorem strings_IndexByte.calls (a0:ByteArray) (a1:Int) (r:Int) (w:World) (h:strings_IndexByte.f a0 a1 = some r) :
  Calls Try.prog 43 #[.string a0,.int .u8 a1] w fun e w'=>e = .returned (.int .i64 r) ∧ Below w.heap.size w w':=by
 unfold strings_IndexByte.f at h
 split at h
 ·rename_i hc
  obtain rfl:=Option.some.inj h
  exact (Try.strings_IndexByte a0 a1 w).mono fun e w' ⟨he,hw⟩=>⟨he,by rw [hw];exact Below.refl _ _⟩
 ·cases h
def impl_Sequence_isStar.f (a0_0:ByteArray) (a0_1:ByteArray):Option (Bool):=if a0_0.toList = ([]:List UInt8) then ((strings_IndexByte.f a0_1 42).bind fun t443=>(if t443 = (wrap64 ((a0_1.size:Int) - 1)) then (if (a0_1.size:Int) = 1 then (some true) else (if 0 < (a0_1.size:Int) then (some ((bt a0_1 0) == 49)) else (none))) else (some false))) else (some false)
def impl_Sequence_isStar.T1:Bool × List (List Nat × List Nat):=(true,[([],[]),([0],[0]),([1],[1]),([2],[2]),([3],[3]),([4,3],[3,4]),([5,3,3],[3,5]),([3],[3]),([7,3],[3,7]),([8,3],[3,8]),([9,3],[3,9]),([6,10,3],[3,6,10]),([3,11],[3,11]),([12,6],[12]),([13],[13]),([14,13],[13,14]),([15,13],[13,15]),([16,13],[13,16]),([17,13,13],[13,17]),([18],[18]),([19,18],[18,19]),([20,18],[18,20]),([21,18],[18,21]),([18,22,13],[13,18,22]),([13,23],[13,23]),([24,18,0,1,2,3,4,5,6,7,8,9,10,11,12,13,14,15,16,17,18,19,20,21,22,23,24],[24])])
def impl_Sequence_isStar.B1:List Nat:=[0,1,3,7,15,31,63,15,143,399,911,2047,4095,8191,16383,32767,65535,131071,262143,524287,1048575,2097151,4194303,8388607,16777215,33554431]
theorem impl_Sequence_isStar.tab1:rtab .any (opsOf Try.f31 1) = impl_Sequence_isStar.T1:=by kernel_rfl
theorem impl_Sequence_isStar.bits1:waitsOk impl_Sequence_isStar.T1.2 impl_Sequence_isStar.B1 = true:=by kernel_rfl
set_option maxHeartbeats 8000000 in
set_option maxRecDepth 100000 in
theorem impl_Sequence_isStar.calls (a0_0:ByteArray) (a0_1:ByteArray) (r:Bool) (w:World) (h:impl_Sequence_isStar.f a0_0 a0_1 = some r) :
  Calls Try.prog 31 #[.agg #[.string a0_0,.string a0_1]] w fun e w'=>e = .returned (.bool r) ∧ Below w.heap.size w w':=by
 have hu25:=Try.underlying25
 have HB:=aM (Below.refl w.heap.size w)
 have H:(if a0_0.toList = ([]:List UInt8) then ((strings_IndexByte.f a0_1 42).bind fun t443=>(if t443 = (wrap64 ((a0_1.size:Int) - 1)) then (if (a0_1.size:Int) = 1 then (some true) else (if 0 < (a0_1.size:Int) then (some ((bt a0_1 0) == 49)) else (none))) else (some false))) else (some false)) = some r:=h
 clear h
 by_cases c2:a0_0.toList = ([]:List UInt8)
 ·rw [if_pos c2] at H
  have c2b0:(a0_0.toList == ([]:List UInt8)) = true:=beq_iff_eq.mpr c2
  have c2b1:(a0_0.toList != ([]:List UInt8)) = false:=bne_eq_false_iff_eq.mpr c2
  clear c2
  replace H:=Option.bind_eq_some_iff.mp H
  obtain ⟨t443,A30,H⟩:=H
  replace H:(if t443 = (wrap64 ((a0_1.size:Int) - 1)) then (if (a0_1.size:Int) = 1 then (some true) else (if 0 < (a0_1.size:Int) then (some ((bt a0_1 0) == 49)) else (none))) else (some false)) = some r:=H
  have A3:=aM A30
  clear A30
  by_cases c4:t443 = (wrap64 ((a0_1.size:Int) - 1))
  ·rw [if_pos c4] at H
   have c4b0:(t443 == (wrap64 ((a0_1.size:Int) - 1))) = true:=beq_iff_eq.mpr c4
   have c4b1:(t443 != (wrap64 ((a0_1.size:Int) - 1))) = false:=bne_eq_false_iff_eq.mpr c4
   clear c4
   by_cases c5:(a0_1.size:Int) = 1
   ·rw [if_pos c5] at H
    have c5b0:((a0_1.size:Int) == 1) = true:=beq_iff_eq.mpr c5
    have c5b1:((a0_1.size:Int) != 1) = false:=bne_eq_false_iff_eq.mpr c5
    clear c5
    obtain rfl:=Option.some.inj H
    go_enter Try.func31,Try.ntmps31
    try go_wp2_with (first|((with_reducible refine gate_dst (N:=1) rfl ?_);(try (refine gate_guard (by rfl) ?_;dsimp only));refine box_event ?hg (N:=1) ?hd (cs:=#[.string a0_0,.string a0_1]) (t:=25) ?hr ?_;(case hd=>rfl);(case hg=>rfl);(case hr=>first|(go_simp;done)|(go_simp;rfl));intro gb442 hg w6 hbox hb;have n0_:=aM (below_step HB.out hb);have n1_:=aM (hbox);have n2_:=aM ((by rw [hg];exact (below_size HB.out):w.heap.size ≤ gb442));have n3_:=aM ((by rw [hg];exact (below_size HB.out):w.heap.size ≤ gb442));clear HB;have HB:=n0_;have BK442:=n1_;have GW442:=n2_;have GE442:=n3_;clear n0_ n1_ n2_ n3_;clear hb hbox hg))
    replace BK442:=aM (yD BK442.out)
    replace HB:=aM (zD HB.out)
    refine start_ (n:=26) (S:=fun w'=>w'.cell? ⟨gb442,0,none⟩ = some (.string a0_0) ∧ w'.cell? ⟨gb442,1,none⟩ = some (.string a0_1)) (ds:=[]) #[fF,fF,fF,fF,fF,fF,fF,fF,fF,fF,fF,fF,fF,fF,fF,fF,fF,fF,fF,fF,fF,fF,fF,fF,fF,fF] (by kernel_rfl) rfl rfl ⟨(blk_cell BK442.out 0).trans rfl,(blk_cell BK442.out 1).trans rfl⟩ (fun hHeld=>?_);refine with_tabW impl_Sequence_isStar.tab1 impl_Sequence_isStar.bits1 (fun HT_ HW_=>?_)
    generalize w6.drew = w7 at BK442 HB hHeld ⊢
    refine pure_ (i:=0) (N:=some 3) (v:=?_) (a':=?_) #[tT,fF,fF,fF,fF,fF,fF,fF,fF,fF,fF,fF,fF,fF,fF,fF,fF,fF,fF,fF,fF,fF,fF,fF,fF,fF] rfl rfl (any_of HT_.out (by kernel_rfl)) (fun _ _ _ h=>h) (Or.inl ⟨by rfl,?_⟩) ?_ ?_
    rotate_left
    ·intro w'
     go_simp
     with_reducible rfl
    rotate_left
    ·simp only [Act.put,sI,sZ,sS,i64_w,i32_w]
     rfl
    refine take_ (i:=1) (N:=some 4) (v:=?_) (a':=?_) #[tT,tT,fF,fF,fF,fF,fF,fF,fF,fF,fF,fF,fF,fF,fF,fF,fF,fF,fF,fF,fF,fF,fF,fF,fF,fF] rfl rfl (take_ofW HT_.out HW_.out (by kernel_rfl)) (fun _ _ _ h=>h) (Or.inl ⟨by rfl,?_⟩) hHeld ?_ ?_
    rotate_left
    ·rintro w' ⟨s0,s1⟩
     go_simp
     with_reducible rfl
    rotate_left
    ·simp only [Act.put,sI,sZ,sS,i64_w,i32_w]
     rfl
    refine pure_ (i:=2) (N:=some 5) (v:=?_) (a':=?_) #[tT,tT,tT,fF,fF,fF,fF,fF,fF,fF,fF,fF,fF,fF,fF,fF,fF,fF,fF,fF,fF,fF,fF,fF,fF,fF] rfl rfl (any_of HT_.out (by kernel_rfl)) (fun _ _ _ h=>h) (Or.inl ⟨by rfl,?_⟩) ?_ ?_
    rotate_left
    ·intro w'
     go_simp
     with_reducible rfl
    rotate_left
    ·simp only [Act.put,sI,sZ,sS,i64_w,i32_w]
     rfl
    refine pure_ (i:=3) (N:=some 6) (v:=?_) (a':=?_) #[tT,tT,tT,tT,fF,fF,fF,fF,fF,fF,fF,fF,fF,fF,fF,fF,fF,fF,fF,fF,fF,fF,fF,fF,fF,fF] rfl rfl (any_of HT_.out (by kernel_rfl)) (fun _ _ _ h=>h) (Or.inl ⟨by rfl,?_⟩) ?_ ?_
    rotate_left
    ·intro w'
     go_simp
     with_reducible rfl
    rotate_left
    ·simp only [Act.put,sI,sZ,sS,i64_w,i32_w]
     rfl
    refine pure_ (i:=4) (N:=some 7) (v:=?_) (a':=?_) #[tT,tT,tT,tT,tT,fF,fF,fF,fF,fF,fF,fF,fF,fF,fF,fF,fF,fF,fF,fF,fF,fF,fF,fF,fF,fF] rfl rfl (any_of HT_.out (by kernel_rfl)) (fun _ _ _ h=>h) (Or.inl ⟨by rfl,?_⟩) ?_ ?_
    rotate_left
    ·intro w'
     go_simp
     with_reducible rfl
    rotate_left
    ·simp only [Act.put,sI,sZ,sS,i64_w,i32_w]
     rfl
    refine pure_ (i:=7) (N:=some 10) (v:=?_) (a':=?_) #[tT,tT,tT,tT,tT,fF,fF,tT,fF,fF,fF,fF,fF,fF,fF,fF,fF,fF,fF,fF,fF,fF,fF,fF,fF,fF] rfl rfl (any_of HT_.out (by kernel_rfl)) (fun _ _ _ h=>h) (Or.inl ⟨by rfl,?_⟩) ?_ ?_
    rotate_left
    ·intro w'
     go_simp
     with_reducible rfl
    rotate_left
    ·simp only [Act.put,sI,sZ,sS,i64_w,i32_w]
     rfl
    refine take_ (i:=5) (N:=some 8) (v:=?_) (a':=?_) #[tT,tT,tT,tT,tT,tT,fF,tT,fF,fF,fF,fF,fF,fF,fF,fF,fF,fF,fF,fF,fF,fF,fF,fF,fF,fF] rfl rfl (take_ofW HT_.out HW_.out (by kernel_rfl)) (fun _ _ _ h=>h) (Or.inl ⟨by rfl,?_⟩) hHeld ?_ ?_
    rotate_left
    ·rintro w' ⟨s0,s1⟩
     go_simp
     with_reducible rfl
    rotate_left
    ·simp only [Act.put,sI,sZ,sS,i64_w,i32_w]
     rfl
    refine take_ (i:=8) (N:=some 11) (v:=?_) (a':=?_) #[tT,tT,tT,tT,tT,tT,fF,tT,tT,fF,fF,fF,fF,fF,fF,fF,fF,fF,fF,fF,fF,fF,fF,fF,fF,fF] rfl rfl (take_ofW HT_.out HW_.out (by kernel_rfl)) (fun _ _ _ h=>h) (Or.inl ⟨by rfl,?_⟩) hHeld ?_ ?_
    rotate_left
    ·rintro w' ⟨s0,s1⟩
     go_simp
     with_reducible rfl
    rotate_left
    ·simp only [Act.put,sI,sZ,sS,i64_w,i32_w]
     rfl
    refine pure_ (i:=9) (N:=some 12) (v:=?_) (a':=?_) #[tT,tT,tT,tT,tT,tT,fF,tT,tT,tT,fF,fF,fF,fF,fF,fF,fF,fF,fF,fF,fF,fF,fF,fF,fF,fF] rfl rfl (any_of HT_.out (by kernel_rfl)) (fun _ _ _ h=>h) (Or.inl ⟨by rfl,?_⟩) ?_ ?_
    rotate_left
    ·intro w'
     go_simp
     with_reducible rfl
    rotate_left
    ·simp only [Act.put,sI,sZ,sS,i64_w,i32_w]
     rfl
    refine pure_ (i:=10) (N:=some 13) (v:=?_) (a':=?_) #[tT,tT,tT,tT,tT,tT,fF,tT,tT,tT,tT,fF,fF,fF,fF,fF,fF,fF,fF,fF,fF,fF,fF,fF,fF,fF] rfl rfl (any_of HT_.out (by kernel_rfl)) (fun _ _ _ h=>h) (Or.inl ⟨by rfl,?_⟩) ?_ ?_
    rotate_left
    ·intro w'
     go_simp
     with_reducible rfl
    rotate_left
    ·simp only [Act.put,sI,sZ,sS,i64_w,i32_w]
     rfl
    refine one_ (i:=6) (N:=some 9) #[tT,tT,tT,tT,tT,tT,tT,tT,tT,tT,tT,fF,fF,fF,fF,fF,fF,fF,fF,fF,fF,fF,fF,fF,fF,fF] rfl rfl (one_of HT_.out (by kernel_rfl)) (by decide) (fun K hK=>?_)
    refine goes_ Try.func43 (by kernel_rfl) rfl #[.string a0_1,.int .u8 42] (by rfl) rfl rfl (by (try simp only [sM,sC,sN]);first|done|rfl|(simp only [List.length_drop,List.length_take];rfl)) ?_
    with_reducible refine (strings_IndexByte.calls a0_1 42 t443 _ A3.out).mono ?_
    rintro e w8 ⟨rfl,hb⟩
    refine ⟨_,rfl,?_⟩
    replace BK442:=aM (blk_below (g:=gb442) (o:=.cells #[.string a0_0,.string a0_1] 25 (0,0)) BK442.out hb)
    replace HB:=aM (below_step HB.out hb)
    (try clear hb)
    refine hK.out _ _ ⟨(blk_cell BK442.out 0).trans rfl,(blk_cell BK442.out 1).trans rfl⟩ (fun hHeld=>?_)
    clear hK K
    refine norm_ (a':=?_) ?_ ?_
    rotate_left
    ·show Act.put _ (some 9) _ = _
     simp only [Act.put,sI,sZ,sS,i64_w,i32_w]
     rfl
    refine pure_ (i:=11) (N:=some 14) (v:=?_) (a':=?_) #[tT,tT,tT,tT,tT,tT,tT,tT,tT,tT,tT,tT,fF,fF,fF,fF,fF,fF,fF,fF,fF,fF,fF,fF,fF,fF] rfl rfl (any_of HT_.out (by kernel_rfl)) (fun _ _ _ h=>h) (Or.inl ⟨by rfl,?_⟩) ?_ ?_
    rotate_left
    ·intro w'
     go_simp
     with_reducible rfl
    rotate_left
    ·simp only [Act.put,sI,sZ,sS,i64_w,i32_w]
     rfl
    refine pure_ (i:=12) (N:=some 15) (v:=?_) (a':=?_) #[tT,tT,tT,tT,tT,tT,tT,tT,tT,tT,tT,tT,tT,fF,fF,fF,fF,fF,fF,fF,fF,fF,fF,fF,fF,fF] rfl rfl (any_of HT_.out (by kernel_rfl)) (fun _ _ _ h=>h) (Or.inl ⟨by rfl,?_⟩) ?_ ?_
    rotate_left
    ·intro w'
     go_simp
     with_reducible rfl
    rotate_left
    ·simp only [Act.put,sI,sZ,sS,i64_w,i32_w]
     rfl
    refine pure_ (i:=13) (N:=some 16) (v:=?_) (a':=?_) #[tT,tT,tT,tT,tT,tT,tT,tT,tT,tT,tT,tT,tT,tT,fF,fF,fF,fF,fF,fF,fF,fF,fF,fF,fF,fF] rfl rfl (any_of HT_.out (by kernel_rfl)) (fun _ _ _ h=>h) (Or.inl ⟨by rfl,?_⟩) ?_ ?_
    rotate_left
    ·intro w'
     go_simp
     with_reducible rfl
    rotate_left
    ·simp only [Act.put,sI,sZ,sS,i64_w,i32_w]
     rfl
    refine pure_ (i:=14) (N:=some 17) (v:=?_) (a':=?_) #[tT,tT,tT,tT,tT,tT,tT,tT,tT,tT,tT,tT,tT,tT,tT,fF,fF,fF,fF,fF,fF,fF,fF,fF,fF,fF] rfl rfl (any_of HT_.out (by kernel_rfl)) (fun _ _ _ h=>h) (Or.inl ⟨by rfl,?_⟩) ?_ ?_
    rotate_left
    ·intro w'
     go_simp
     with_reducible rfl
    rotate_left
    ·simp only [Act.put,sI,sZ,sS,i64_w,i32_w]
     rfl
    refine take_ (i:=15) (N:=some 18) (v:=?_) (a':=?_) #[tT,tT,tT,tT,tT,tT,tT,tT,tT,tT,tT,tT,tT,tT,tT,tT,fF,fF,fF,fF,fF,fF,fF,fF,fF,fF] rfl rfl (take_ofW HT_.out HW_.out (by kernel_rfl)) (fun _ _ _ h=>h) (Or.inl ⟨by rfl,?_⟩) hHeld ?_ ?_
    rotate_left
    ·rintro w' ⟨s0,s1⟩
     go_simp
     with_reducible rfl
    rotate_left
    ·simp only [Act.put,sI,sZ,sS,i64_w,i32_w]
     rfl
    refine pure_ (i:=16) (N:=some 19) (v:=?_) (a':=?_) #[tT,tT,tT,tT,tT,tT,tT,tT,tT,tT,tT,tT,tT,tT,tT,tT,tT,fF,fF,fF,fF,fF,fF,fF,fF,fF] rfl rfl (any_of HT_.out (by kernel_rfl)) (fun _ _ _ h=>h) (Or.inl ⟨by rfl,?_⟩) ?_ ?_
    rotate_left
    ·intro w'
     go_simp
     with_reducible rfl
    rotate_left
    ·simp only [Act.put,sI,sZ,sS,i64_w,i32_w]
     rfl
    refine pure_ (i:=17) (N:=some 20) (v:=?_) (a':=?_) #[tT,tT,tT,tT,tT,tT,tT,tT,tT,tT,tT,tT,tT,tT,tT,tT,tT,tT,fF,fF,fF,fF,fF,fF,fF,fF] rfl rfl (any_of HT_.out (by kernel_rfl)) (fun _ _ _ h=>h) (Or.inl ⟨by rfl,?_⟩) ?_ ?_
    rotate_left
    ·intro w'
     go_simp
     with_reducible rfl
    rotate_left
    ·simp only [Act.put,sI,sZ,sS,i64_w,i32_w]
     rfl
    refine pure_ (i:=18) (N:=some 21) (v:=?_) (a':=?_) #[tT,tT,tT,tT,tT,tT,tT,tT,tT,tT,tT,tT,tT,tT,tT,tT,tT,tT,tT,fF,fF,fF,fF,fF,fF,fF] rfl rfl (any_of HT_.out (by kernel_rfl)) (fun _ _ _ h=>h) (Or.inl ⟨by rfl,?_⟩) ?_ ?_
    rotate_left
    ·intro w'
     go_simp
     with_reducible rfl
    rotate_left
    ·simp only [Act.put,sI,sZ,sS,i64_w,i32_w]
     rfl
    refine pure_ (i:=19) (N:=some 22) (v:=undef) (a':=?_) #[tT,tT,tT,tT,tT,tT,tT,tT,tT,tT,tT,tT,tT,tT,tT,tT,tT,tT,tT,tT,fF,fF,fF,fF,fF,fF] rfl rfl (any_of HT_.out (by kernel_rfl)) (fun _ _ _ h=>h) (Or.inr ⟨by rfl,rfl⟩) ?_ ?_
    rotate_left
    ·simp only [Act.put,sI,sZ,sS,i64_w,i32_w]
     rfl
    refine pure_ (i:=20) (N:=some 23) (v:=undef) (a':=?_) #[tT,tT,tT,tT,tT,tT,tT,tT,tT,tT,tT,tT,tT,tT,tT,tT,tT,tT,tT,tT,tT,fF,fF,fF,fF,fF] rfl rfl (any_of HT_.out (by kernel_rfl)) (fun _ _ _ h=>h) (Or.inr ⟨by rfl,rfl⟩) ?_ ?_
    rotate_left
    ·simp only [Act.put,sI,sZ,sS,i64_w,i32_w]
     rfl
    refine pure_ (i:=21) (N:=some 24) (v:=undef) (a':=?_) #[tT,tT,tT,tT,tT,tT,tT,tT,tT,tT,tT,tT,tT,tT,tT,tT,tT,tT,tT,tT,tT,tT,fF,fF,fF,fF] rfl rfl (any_of HT_.out (by kernel_rfl)) (fun _ _ _ h=>h) (Or.inr ⟨by rfl,rfl⟩) ?_ ?_
    rotate_left
    ·simp only [Act.put,sI,sZ,sS,i64_w,i32_w]
     rfl
    refine pure_ (i:=22) (N:=some 25) (v:=undef) (a':=?_) #[tT,tT,tT,tT,tT,tT,tT,tT,tT,tT,tT,tT,tT,tT,tT,tT,tT,tT,tT,tT,tT,tT,tT,fF,fF,fF] rfl rfl (any_of HT_.out (by kernel_rfl)) (fun _ _ _ h=>h) (Or.inr ⟨by rfl,rfl⟩) ?_ ?_
    rotate_left
    ·simp only [Act.put,sI,sZ,sS,i64_w,i32_w]
     rfl
    refine pure_ (i:=23) (N:=some 26) (v:=?_) (a':=?_) #[tT,tT,tT,tT,tT,tT,tT,tT,tT,tT,tT,tT,tT,tT,tT,tT,tT,tT,tT,tT,tT,tT,tT,tT,fF,fF] rfl rfl (any_of HT_.out (by kernel_rfl)) (fun _ _ _ h=>h) (Or.inl ⟨by rfl,?_⟩) ?_ ?_
    rotate_left
    ·intro w'
     go_simp
     with_reducible rfl
    rotate_left
    ·simp only [Act.put,sI,sZ,sS,i64_w,i32_w]
     rfl
    refine pure_ (i:=24) (N:=some 27) (v:=?_) (a':=?_) #[tT,tT,tT,tT,tT,tT,tT,tT,tT,tT,tT,tT,tT,tT,tT,tT,tT,tT,tT,tT,tT,tT,tT,tT,tT,fF] rfl rfl (any_of HT_.out (by kernel_rfl)) (fun _ _ _ h=>h) (Or.inl ⟨by rfl,?_⟩) ?_ ?_
    rotate_left
    ·intro w'
     go_simp
     with_reducible rfl
    rotate_left
    ·simp only [Act.put,sI,sZ,sS,i64_w,i32_w]
     rfl
    refine pure_ (i:=25) (N:=some 2) (v:=?_) (a':=?_) #[tT,tT,tT,tT,tT,tT,tT,tT,tT,tT,tT,tT,tT,tT,tT,tT,tT,tT,tT,tT,tT,tT,tT,tT,tT,tT] rfl rfl (any_of HT_.out (by kernel_rfl)) (fun _ _ _ h=>h) (Or.inl ⟨by rfl,?_⟩) ?_ ?_
    rotate_left
    ·intro w'
     go_simp
     with_reducible rfl
    rotate_left
    ·simp only [Act.put,sI,sZ,sS,i64_w,i32_w]
     rfl
    refine done_ (done_of HT_.out (by kernel_rfl)) ?_
    try go_wp2
    go_ret
    exact ⟨by first|rfl|(simp [errW_none,errW_some] <;> rfl)|(simp [*,errW_none,errW_some] <;> rfl),HB.out⟩
   ·rw [if_neg c5] at H
    have c5b0:((a0_1.size:Int) == 1) = false:=beq_eq_false_iff_ne.mpr c5
    have c5b1:((a0_1.size:Int) != 1) = true:=bne_iff_ne.mpr c5
    by_cases c9:0 < (a0_1.size:Int)
    ·rw [if_pos c9] at H
     have c9b0:decide (0 < (a0_1.size:Int)) = true:=decide_eq_true c9
     have c9b1:decide (0 < a0_1.size) = true:=decide_eq_true (by omega)
     clear c9
     obtain rfl:=Option.some.inj H
     go_enter Try.func31,Try.ntmps31
     try go_wp2_with (first|((with_reducible refine gate_dst (N:=1) rfl ?_);(try (refine gate_guard (by rfl) ?_;dsimp only));refine box_event ?hg (N:=1) ?hd (cs:=#[.string a0_0,.string a0_1]) (t:=25) ?hr ?_;(case hd=>rfl);(case hg=>rfl);(case hr=>first|(go_simp;done)|(go_simp;rfl));intro gb442 hg w11 hbox hb;have n0_:=aM (below_step HB.out hb);have n1_:=aM (hbox);have n2_:=aM ((by rw [hg];exact (below_size HB.out):w.heap.size ≤ gb442));have n3_:=aM ((by rw [hg];exact (below_size HB.out):w.heap.size ≤ gb442));clear HB;have HB:=n0_;have BK442:=n1_;have GW442:=n2_;have GE442:=n3_;clear n0_ n1_ n2_ n3_;clear hb hbox hg))
     replace BK442:=aM (yD BK442.out)
     replace HB:=aM (zD HB.out)
     refine start_ (n:=26) (S:=fun w'=>w'.cell? ⟨gb442,0,none⟩ = some (.string a0_0) ∧ w'.cell? ⟨gb442,1,none⟩ = some (.string a0_1)) (ds:=[]) #[fF,fF,fF,fF,fF,fF,fF,fF,fF,fF,fF,fF,fF,fF,fF,fF,fF,fF,fF,fF,fF,fF,fF,fF,fF,fF] (by kernel_rfl) rfl rfl ⟨(blk_cell BK442.out 0).trans rfl,(blk_cell BK442.out 1).trans rfl⟩ (fun hHeld=>?_);refine with_tabW impl_Sequence_isStar.tab1 impl_Sequence_isStar.bits1 (fun HT_ HW_=>?_)
     generalize w11.drew = w12 at BK442 HB hHeld ⊢
     refine pure_ (i:=0) (N:=some 3) (v:=?_) (a':=?_) #[tT,fF,fF,fF,fF,fF,fF,fF,fF,fF,fF,fF,fF,fF,fF,fF,fF,fF,fF,fF,fF,fF,fF,fF,fF,fF] rfl rfl (any_of HT_.out (by kernel_rfl)) (fun _ _ _ h=>h) (Or.inl ⟨by rfl,?_⟩) ?_ ?_
     rotate_left
     ·intro w'
      go_simp
      with_reducible rfl
     rotate_left
     ·simp only [Act.put,sI,sZ,sS,i64_w,i32_w]
      rfl
     refine take_ (i:=1) (N:=some 4) (v:=?_) (a':=?_) #[tT,tT,fF,fF,fF,fF,fF,fF,fF,fF,fF,fF,fF,fF,fF,fF,fF,fF,fF,fF,fF,fF,fF,fF,fF,fF] rfl rfl (take_ofW HT_.out HW_.out (by kernel_rfl)) (fun _ _ _ h=>h) (Or.inl ⟨by rfl,?_⟩) hHeld ?_ ?_
     rotate_left
     ·rintro w' ⟨s0,s1⟩
      go_simp
      with_reducible rfl
     rotate_left
     ·simp only [Act.put,sI,sZ,sS,i64_w,i32_w]
      rfl
     refine pure_ (i:=2) (N:=some 5) (v:=?_) (a':=?_) #[tT,tT,tT,fF,fF,fF,fF,fF,fF,fF,fF,fF,fF,fF,fF,fF,fF,fF,fF,fF,fF,fF,fF,fF,fF,fF] rfl rfl (any_of HT_.out (by kernel_rfl)) (fun _ _ _ h=>h) (Or.inl ⟨by rfl,?_⟩) ?_ ?_
     rotate_left
     ·intro w'
      go_simp
      with_reducible rfl
     rotate_left
     ·simp only [Act.put,sI,sZ,sS,i64_w,i32_w]
      rfl
     refine pure_ (i:=3) (N:=some 6) (v:=?_) (a':=?_) #[tT,tT,tT,tT,fF,fF,fF,fF,fF,fF,fF,fF,fF,fF,fF,fF,fF,fF,fF,fF,fF,fF,fF,fF,fF,fF] rfl rfl (any_of HT_.out (by kernel_rfl)) (fun _ _ _ h=>h) (Or.inl ⟨by rfl,?_⟩) ?_ ?_
     rotate_left
     ·intro w'
      go_simp
      with_reducible rfl
     rotate_left
     ·simp only [Act.put,sI,sZ,sS,i64_w,i32_w]
      rfl
     refine pure_ (i:=4) (N:=some 7) (v:=?_) (a':=?_) #[tT,tT,tT,tT,tT,fF,fF,fF,fF,fF,fF,fF,fF,fF,fF,fF,fF,fF,fF,fF,fF,fF,fF,fF,fF,fF] rfl rfl (any_of HT_.out (by kernel_rfl)) (fun _ _ _ h=>h) (Or.inl ⟨by rfl,?_⟩) ?_ ?_
     rotate_left
     ·intro w'
      go_simp
      with_reducible rfl
     rotate_left
     ·simp only [Act.put,sI,sZ,sS,i64_w,i32_w]
      rfl
     refine pure_ (i:=7) (N:=some 10) (v:=?_) (a':=?_) #[tT,tT,tT,tT,tT,fF,fF,tT,fF,fF,fF,fF,fF,fF,fF,fF,fF,fF,fF,fF,fF,fF,fF,fF,fF,fF] rfl rfl (any_of HT_.out (by kernel_rfl)) (fun _ _ _ h=>h) (Or.inl ⟨by rfl,?_⟩) ?_ ?_
     rotate_left
     ·intro w'
      go_simp
      with_reducible rfl
     rotate_left
     ·simp only [Act.put,sI,sZ,sS,i64_w,i32_w]
      rfl
     refine take_ (i:=5) (N:=some 8) (v:=?_) (a':=?_) #[tT,tT,tT,tT,tT,tT,fF,tT,fF,fF,fF,fF,fF,fF,fF,fF,fF,fF,fF,fF,fF,fF,fF,fF,fF,fF] rfl rfl (take_ofW HT_.out HW_.out (by kernel_rfl)) (fun _ _ _ h=>h) (Or.inl ⟨by rfl,?_⟩) hHeld ?_ ?_
     rotate_left
     ·rintro w' ⟨s0,s1⟩
      go_simp
      with_reducible rfl
     rotate_left
     ·simp only [Act.put,sI,sZ,sS,i64_w,i32_w]
      rfl
     refine take_ (i:=8) (N:=some 11) (v:=?_) (a':=?_) #[tT,tT,tT,tT,tT,tT,fF,tT,tT,fF,fF,fF,fF,fF,fF,fF,fF,fF,fF,fF,fF,fF,fF,fF,fF,fF] rfl rfl (take_ofW HT_.out HW_.out (by kernel_rfl)) (fun _ _ _ h=>h) (Or.inl ⟨by rfl,?_⟩) hHeld ?_ ?_
     rotate_left
     ·rintro w' ⟨s0,s1⟩
      go_simp
      with_reducible rfl
     rotate_left
     ·simp only [Act.put,sI,sZ,sS,i64_w,i32_w]
      rfl
     refine pure_ (i:=9) (N:=some 12) (v:=?_) (a':=?_) #[tT,tT,tT,tT,tT,tT,fF,tT,tT,tT,fF,fF,fF,fF,fF,fF,fF,fF,fF,fF,fF,fF,fF,fF,fF,fF] rfl rfl (any_of HT_.out (by kernel_rfl)) (fun _ _ _ h=>h) (Or.inl ⟨by rfl,?_⟩) ?_ ?_
     rotate_left
     ·intro w'
      go_simp
      with_reducible rfl
     rotate_left
     ·simp only [Act.put,sI,sZ,sS,i64_w,i32_w]
      rfl
     refine pure_ (i:=10) (N:=some 13) (v:=?_) (a':=?_) #[tT,tT,tT,tT,tT,tT,fF,tT,tT,tT,tT,fF,fF,fF,fF,fF,fF,fF,fF,fF,fF,fF,fF,fF,fF,fF] rfl rfl (any_of HT_.out (by kernel_rfl)) (fun _ _ _ h=>h) (Or.inl ⟨by rfl,?_⟩) ?_ ?_
     rotate_left
     ·intro w'
      go_simp
      with_reducible rfl
     rotate_left
     ·simp only [Act.put,sI,sZ,sS,i64_w,i32_w]
      rfl
     refine one_ (i:=6) (N:=some 9) #[tT,tT,tT,tT,tT,tT,tT,tT,tT,tT,tT,fF,fF,fF,fF,fF,fF,fF,fF,fF,fF,fF,fF,fF,fF,fF] rfl rfl (one_of HT_.out (by kernel_rfl)) (by decide) (fun K hK=>?_)
     refine goes_ Try.func43 (by kernel_rfl) rfl #[.string a0_1,.int .u8 42] (by rfl) rfl rfl (by (try simp only [sM,sC,sN]);first|done|rfl|(simp only [List.length_drop,List.length_take];rfl)) ?_
     with_reducible refine (strings_IndexByte.calls a0_1 42 t443 _ A3.out).mono ?_
     rintro e w13 ⟨rfl,hb⟩
     refine ⟨_,rfl,?_⟩
     replace BK442:=aM (blk_below (g:=gb442) (o:=.cells #[.string a0_0,.string a0_1] 25 (0,0)) BK442.out hb)
     replace HB:=aM (below_step HB.out hb)
     (try clear hb)
     have p10:0 ≤ (0:Int):=(by omega)
     have q10:0 < a0_1.size:=(by have:(0:Int) < (a0_1.size:Int):=of_decide_eq_true (by first|(with_reducible assumption)|assumption);omega)
     have hx10:∀ h:0 < a0_1.size,((a0_1[0]'h).toNat:Int) = bt a0_1 0:=bt_at a0_1 0
     clear p10
     have qi10:(0 < (a0_1.size:Int)) = True:=eq_true (of_decide_eq_true (by first|(with_reducible assumption)|assumption))
     replace q10:=eq_true q10
     refine hK.out _ _ ⟨(blk_cell BK442.out 0).trans rfl,(blk_cell BK442.out 1).trans rfl⟩ (fun hHeld=>?_)
     clear hK K
     refine norm_ (a':=?_) ?_ ?_
     rotate_left
     ·show Act.put _ (some 9) _ = _
      simp only [Act.put,sI,sZ,sS,i64_w,i32_w]
      rfl
     refine pure_ (i:=11) (N:=some 14) (v:=?_) (a':=?_) #[tT,tT,tT,tT,tT,tT,tT,tT,tT,tT,tT,tT,fF,fF,fF,fF,fF,fF,fF,fF,fF,fF,fF,fF,fF,fF] rfl rfl (any_of HT_.out (by kernel_rfl)) (fun _ _ _ h=>h) (Or.inl ⟨by rfl,?_⟩) ?_ ?_
     rotate_left
     ·intro w'
      go_simp
      with_reducible rfl
     rotate_left
     ·simp only [Act.put,sI,sZ,sS,i64_w,i32_w]
      rfl
     refine pure_ (i:=12) (N:=some 15) (v:=?_) (a':=?_) #[tT,tT,tT,tT,tT,tT,tT,tT,tT,tT,tT,tT,tT,fF,fF,fF,fF,fF,fF,fF,fF,fF,fF,fF,fF,fF] rfl rfl (any_of HT_.out (by kernel_rfl)) (fun _ _ _ h=>h) (Or.inl ⟨by rfl,?_⟩) ?_ ?_
     rotate_left
     ·intro w'
      go_simp
      with_reducible rfl
     rotate_left
     ·simp only [Act.put,sI,sZ,sS,i64_w,i32_w]
      rfl
     refine pure_ (i:=13) (N:=some 16) (v:=?_) (a':=?_) #[tT,tT,tT,tT,tT,tT,tT,tT,tT,tT,tT,tT,tT,tT,fF,fF,fF,fF,fF,fF,fF,fF,fF,fF,fF,fF] rfl rfl (any_of HT_.out (by kernel_rfl)) (fun _ _ _ h=>h) (Or.inl ⟨by rfl,?_⟩) ?_ ?_
     rotate_left
     ·intro w'
      go_simp
      with_reducible rfl
     rotate_left
     ·simp only [Act.put,sI,sZ,sS,i64_w,i32_w]
      rfl
     refine pure_ (i:=14) (N:=some 17) (v:=?_) (a':=?_) #[tT,tT,tT,tT,tT,tT,tT,tT,tT,tT,tT,tT,tT,tT,tT,fF,fF,fF,fF,fF,fF,fF,fF,fF,fF,fF] rfl rfl (any_of HT_.out (by kernel_rfl)) (fun _ _ _ h=>h) (Or.inl ⟨by rfl,?_⟩) ?_ ?_
     rotate_left
     ·intro w'
      go_simp
      with_reducible rfl
     rotate_left
     ·simp only [Act.put,sI,sZ,sS,i64_w,i32_w]
      rfl
     refine take_ (i:=15) (N:=some 18) (v:=?_) (a':=?_) #[tT,tT,tT,tT,tT,tT,tT,tT,tT,tT,tT,tT,tT,tT,tT,tT,fF,fF,fF,fF,fF,fF,fF,fF,fF,fF] rfl rfl (take_ofW HT_.out HW_.out (by kernel_rfl)) (fun _ _ _ h=>h) (Or.inl ⟨by rfl,?_⟩) hHeld ?_ ?_
     rotate_left
     ·rintro w' ⟨s0,s1⟩
      go_simp
      with_reducible rfl
     rotate_left
     ·simp only [Act.put,sI,sZ,sS,i64_w,i32_w]
      rfl
     refine pure_ (i:=16) (N:=some 19) (v:=?_) (a':=?_) #[tT,tT,tT,tT,tT,tT,tT,tT,tT,tT,tT,tT,tT,tT,tT,tT,tT,fF,fF,fF,fF,fF,fF,fF,fF,fF] rfl rfl (any_of HT_.out (by kernel_rfl)) (fun _ _ _ h=>h) (Or.inl ⟨by rfl,?_⟩) ?_ ?_
     rotate_left
     ·intro w'
      go_simp
      with_reducible rfl
     rotate_left
     ·simp only [Act.put,sI,sZ,sS,i64_w,i32_w]
      rfl
     refine pure_ (i:=17) (N:=some 20) (v:=?_) (a':=?_) #[tT,tT,tT,tT,tT,tT,tT,tT,tT,tT,tT,tT,tT,tT,tT,tT,tT,tT,fF,fF,fF,fF,fF,fF,fF,fF] rfl rfl (any_of HT_.out (by kernel_rfl)) (fun _ _ _ h=>h) (Or.inl ⟨by rfl,?_⟩) ?_ ?_
     rotate_left
     ·intro w'
      go_simp
      with_reducible rfl
     rotate_left
     ·simp only [Act.put,sI,sZ,sS,i64_w,i32_w]
      rfl
     refine pure_ (i:=18) (N:=some 21) (v:=?_) (a':=?_) #[tT,tT,tT,tT,tT,tT,tT,tT,tT,tT,tT,tT,tT,tT,tT,tT,tT,tT,tT,fF,fF,fF,fF,fF,fF,fF] rfl rfl (any_of HT_.out (by kernel_rfl)) (fun _ _ _ h=>h) (Or.inl ⟨by rfl,?_⟩) ?_ ?_
     rotate_left
     ·intro w'
      go_simp
      with_reducible rfl
     rotate_left
     ·simp only [Act.put,sI,sZ,sS,i64_w,i32_w]
      rfl
     refine pure_ (i:=19) (N:=some 22) (v:=?_) (a':=?_) #[tT,tT,tT,tT,tT,tT,tT,tT,tT,tT,tT,tT,tT,tT,tT,tT,tT,tT,tT,tT,fF,fF,fF,fF,fF,fF] rfl rfl (any_of HT_.out (by kernel_rfl)) (fun _ _ _ h=>h) (Or.inl ⟨by rfl,?_⟩) ?_ ?_
     rotate_left
     ·intro w'
      go_simp
      with_reducible rfl
     rotate_left
     ·simp only [Act.put,sI,sZ,sS,i64_w,i32_w]
      rfl
     refine take_ (i:=20) (N:=some 23) (v:=?_) (a':=?_) #[tT,tT,tT,tT,tT,tT,tT,tT,tT,tT,tT,tT,tT,tT,tT,tT,tT,tT,tT,tT,tT,fF,fF,fF,fF,fF] rfl rfl (take_ofW HT_.out HW_.out (by kernel_rfl)) (fun _ _ _ h=>h) (Or.inl ⟨by rfl,?_⟩) hHeld ?_ ?_
     rotate_left
     ·rintro w' ⟨s0,s1⟩
      go_simp
      with_reducible rfl
     rotate_left
     ·simp only [Act.put,sI,sZ,sS,i64_w,i32_w]
      rfl
     refine take_ (i:=21) (N:=some 24) (v:=?_) (a':=?_) #[tT,tT,tT,tT,tT,tT,tT,tT,tT,tT,tT,tT,tT,tT,tT,tT,tT,tT,tT,tT,tT,tT,fF,fF,fF,fF] rfl rfl (take_ofW HT_.out HW_.out (by kernel_rfl)) (fun _ _ _ h=>h) (Or.inl ⟨by rfl,?_⟩) hHeld ?_ ?_
     rotate_left
     ·rintro w' ⟨s0,s1⟩
      go_simp
      with_reducible rfl
     rotate_left
     ·simp only [Act.put,sI,sZ,sS,i64_w,i32_w]
      rfl
     refine pure_ (i:=22) (N:=some 25) (v:=?_) (a':=?_) #[tT,tT,tT,tT,tT,tT,tT,tT,tT,tT,tT,tT,tT,tT,tT,tT,tT,tT,tT,tT,tT,tT,tT,fF,fF,fF] rfl rfl (any_of HT_.out (by kernel_rfl)) (fun _ _ _ h=>h) (Or.inl ⟨by rfl,?_⟩) ?_ ?_
     rotate_left
     ·intro w'
      go_simp
      with_reducible rfl
     rotate_left
     ·simp only [Act.put,sI,sZ,sS,i64_w,i32_w]
      rfl
     refine pure_ (i:=23) (N:=some 26) (v:=?_) (a':=?_) #[tT,tT,tT,tT,tT,tT,tT,tT,tT,tT,tT,tT,tT,tT,tT,tT,tT,tT,tT,tT,tT,tT,tT,tT,fF,fF] rfl rfl (any_of HT_.out (by kernel_rfl)) (fun _ _ _ h=>h) (Or.inl ⟨by rfl,?_⟩) ?_ ?_
     rotate_left
     ·intro w'
      go_simp
      with_reducible rfl
     rotate_left
     ·simp only [Act.put,sI,sZ,sS,i64_w,i32_w]
      rfl
     refine pure_ (i:=24) (N:=some 27) (v:=?_) (a':=?_) #[tT,tT,tT,tT,tT,tT,tT,tT,tT,tT,tT,tT,tT,tT,tT,tT,tT,tT,tT,tT,tT,tT,tT,tT,tT,fF] rfl rfl (any_of HT_.out (by kernel_rfl)) (fun _ _ _ h=>h) (Or.inl ⟨by rfl,?_⟩) ?_ ?_
     rotate_left
     ·intro w'
      go_simp
      with_reducible rfl
     rotate_left
     ·simp only [Act.put,sI,sZ,sS,i64_w,i32_w]
      rfl
     refine pure_ (i:=25) (N:=some 2) (v:=?_) (a':=?_) #[tT,tT,tT,tT,tT,tT,tT,tT,tT,tT,tT,tT,tT,tT,tT,tT,tT,tT,tT,tT,tT,tT,tT,tT,tT,tT] rfl rfl (any_of HT_.out (by kernel_rfl)) (fun _ _ _ h=>h) (Or.inl ⟨by rfl,?_⟩) ?_ ?_
     rotate_left
     ·intro w'
      go_simp
      with_reducible rfl
     rotate_left
     ·simp only [Act.put,sI,sZ,sS,i64_w,i32_w]
      rfl
     refine done_ (done_of HT_.out (by kernel_rfl)) ?_
     try go_wp2
     go_ret
     exact ⟨by first|rfl|(simp [errW_none,errW_some] <;> rfl)|(simp [*,errW_none,errW_some] <;> rfl),HB.out⟩
    ·rw [if_neg c9] at H
     exact absurd H (by simp)
  ·rw [if_neg c4] at H
   have c4b0:(t443 == (wrap64 ((a0_1.size:Int) - 1))) = false:=beq_eq_false_iff_ne.mpr c4
   have c4b1:(t443 != (wrap64 ((a0_1.size:Int) - 1))) = true:=bne_iff_ne.mpr c4
   obtain rfl:=Option.some.inj H
   go_enter Try.func31,Try.ntmps31
   try go_wp2_with (first|((with_reducible refine gate_dst (N:=1) rfl ?_);(try (refine gate_guard (by rfl) ?_;dsimp only));refine box_event ?hg (N:=1) ?hd (cs:=#[.string a0_0,.string a0_1]) (t:=25) ?hr ?_;(case hd=>rfl);(case hg=>rfl);(case hr=>first|(go_simp;done)|(go_simp;rfl));intro gb442 hg w14 hbox hb;have n0_:=aM (below_step HB.out hb);have n1_:=aM (hbox);have n2_:=aM ((by rw [hg];exact (below_size HB.out):w.heap.size ≤ gb442));have n3_:=aM ((by rw [hg];exact (below_size HB.out):w.heap.size ≤ gb442));clear HB;have HB:=n0_;have BK442:=n1_;have GW442:=n2_;have GE442:=n3_;clear n0_ n1_ n2_ n3_;clear hb hbox hg))
   replace BK442:=aM (yD BK442.out)
   replace HB:=aM (zD HB.out)
   refine start_ (n:=26) (S:=fun w'=>w'.cell? ⟨gb442,0,none⟩ = some (.string a0_0) ∧ w'.cell? ⟨gb442,1,none⟩ = some (.string a0_1)) (ds:=[]) #[fF,fF,fF,fF,fF,fF,fF,fF,fF,fF,fF,fF,fF,fF,fF,fF,fF,fF,fF,fF,fF,fF,fF,fF,fF,fF] (by kernel_rfl) rfl rfl ⟨(blk_cell BK442.out 0).trans rfl,(blk_cell BK442.out 1).trans rfl⟩ (fun hHeld=>?_);refine with_tabW impl_Sequence_isStar.tab1 impl_Sequence_isStar.bits1 (fun HT_ HW_=>?_)
   generalize w14.drew = w15 at BK442 HB hHeld ⊢
   refine pure_ (i:=0) (N:=some 3) (v:=?_) (a':=?_) #[tT,fF,fF,fF,fF,fF,fF,fF,fF,fF,fF,fF,fF,fF,fF,fF,fF,fF,fF,fF,fF,fF,fF,fF,fF,fF] rfl rfl (any_of HT_.out (by kernel_rfl)) (fun _ _ _ h=>h) (Or.inl ⟨by rfl,?_⟩) ?_ ?_
   rotate_left
   ·intro w'
    go_simp
    with_reducible rfl
   rotate_left
   ·simp only [Act.put,sI,sZ,sS,i64_w,i32_w]
    rfl
   refine take_ (i:=1) (N:=some 4) (v:=?_) (a':=?_) #[tT,tT,fF,fF,fF,fF,fF,fF,fF,fF,fF,fF,fF,fF,fF,fF,fF,fF,fF,fF,fF,fF,fF,fF,fF,fF] rfl rfl (take_ofW HT_.out HW_.out (by kernel_rfl)) (fun _ _ _ h=>h) (Or.inl ⟨by rfl,?_⟩) hHeld ?_ ?_
   rotate_left
   ·rintro w' ⟨s0,s1⟩
    go_simp
    with_reducible rfl
   rotate_left
   ·simp only [Act.put,sI,sZ,sS,i64_w,i32_w]
    rfl
   refine pure_ (i:=2) (N:=some 5) (v:=?_) (a':=?_) #[tT,tT,tT,fF,fF,fF,fF,fF,fF,fF,fF,fF,fF,fF,fF,fF,fF,fF,fF,fF,fF,fF,fF,fF,fF,fF] rfl rfl (any_of HT_.out (by kernel_rfl)) (fun _ _ _ h=>h) (Or.inl ⟨by rfl,?_⟩) ?_ ?_
   rotate_left
   ·intro w'
    go_simp
    with_reducible rfl
   rotate_left
   ·simp only [Act.put,sI,sZ,sS,i64_w,i32_w]
    rfl
   refine pure_ (i:=3) (N:=some 6) (v:=?_) (a':=?_) #[tT,tT,tT,tT,fF,fF,fF,fF,fF,fF,fF,fF,fF,fF,fF,fF,fF,fF,fF,fF,fF,fF,fF,fF,fF,fF] rfl rfl (any_of HT_.out (by kernel_rfl)) (fun _ _ _ h=>h) (Or.inl ⟨by rfl,?_⟩) ?_ ?_
   rotate_left
   ·intro w'
    go_simp
    with_reducible rfl
   rotate_left
   ·simp only [Act.put,sI,sZ,sS,i64_w,i32_w]
    rfl
   refine pure_ (i:=4) (N:=some 7) (v:=?_) (a':=?_) #[tT,tT,tT,tT,tT,fF,fF,fF,fF,fF,fF,fF,fF,fF,fF,fF,fF,fF,fF,fF,fF,fF,fF,fF,fF,fF] rfl rfl (any_of HT_.out (by kernel_rfl)) (fun _ _ _ h=>h) (Or.inl ⟨by rfl,?_⟩) ?_ ?_
   rotate_left
   ·intro w'
    go_simp
    with_reducible rfl
   rotate_left
   ·simp only [Act.put,sI,sZ,sS,i64_w,i32_w]
    rfl
   refine pure_ (i:=7) (N:=some 10) (v:=?_) (a':=?_) #[tT,tT,tT,tT,tT,fF,fF,tT,fF,fF,fF,fF,fF,fF,fF,fF,fF,fF,fF,fF,fF,fF,fF,fF,fF,fF] rfl rfl (any_of HT_.out (by kernel_rfl)) (fun _ _ _ h=>h) (Or.inl ⟨by rfl,?_⟩) ?_ ?_
   rotate_left
   ·intro w'
    go_simp
    with_reducible rfl
   rotate_left
   ·simp only [Act.put,sI,sZ,sS,i64_w,i32_w]
    rfl
   refine take_ (i:=5) (N:=some 8) (v:=?_) (a':=?_) #[tT,tT,tT,tT,tT,tT,fF,tT,fF,fF,fF,fF,fF,fF,fF,fF,fF,fF,fF,fF,fF,fF,fF,fF,fF,fF] rfl rfl (take_ofW HT_.out HW_.out (by kernel_rfl)) (fun _ _ _ h=>h) (Or.inl ⟨by rfl,?_⟩) hHeld ?_ ?_
   rotate_left
   ·rintro w' ⟨s0,s1⟩
    go_simp
    with_reducible rfl
   rotate_left
   ·simp only [Act.put,sI,sZ,sS,i64_w,i32_w]
    rfl
   refine take_ (i:=8) (N:=some 11) (v:=?_) (a':=?_) #[tT,tT,tT,tT,tT,tT,fF,tT,tT,fF,fF,fF,fF,fF,fF,fF,fF,fF,fF,fF,fF,fF,fF,fF,fF,fF] rfl rfl (take_ofW HT_.out HW_.out (by kernel_rfl)) (fun _ _ _ h=>h) (Or.inl ⟨by rfl,?_⟩) hHeld ?_ ?_
   rotate_left
   ·rintro w' ⟨s0,s1⟩
    go_simp
    with_reducible rfl
   rotate_left
   ·simp only [Act.put,sI,sZ,sS,i64_w,i32_w]
    rfl
   refine pure_ (i:=9) (N:=some 12) (v:=?_) (a':=?_) #[tT,tT,tT,tT,tT,tT,fF,tT,tT,tT,fF,fF,fF,fF,fF,fF,fF,fF,fF,fF,fF,fF,fF,fF,fF,fF] rfl rfl (any_of HT_.out (by kernel_rfl)) (fun _ _ _ h=>h) (Or.inl ⟨by rfl,?_⟩) ?_ ?_
   rotate_left
   ·intro w'
    go_simp
    with_reducible rfl
   rotate_left
   ·simp only [Act.put,sI,sZ,sS,i64_w,i32_w]
    rfl
   refine pure_ (i:=10) (N:=some 13) (v:=?_) (a':=?_) #[tT,tT,tT,tT,tT,tT,fF,tT,tT,tT,tT,fF,fF,fF,fF,fF,fF,fF,fF,fF,fF,fF,fF,fF,fF,fF] rfl rfl (any_of HT_.out (by kernel_rfl)) (fun _ _ _ h=>h) (Or.inl ⟨by rfl,?_⟩) ?_ ?_
   rotate_left
   ·intro w'
    go_simp
    with_reducible rfl
   rotate_left
   ·simp only [Act.put,sI,sZ,sS,i64_w,i32_w]
    rfl
   refine one_ (i:=6) (N:=some 9) #[tT,tT,tT,tT,tT,tT,tT,tT,tT,tT,tT,fF,fF,fF,fF,fF,fF,fF,fF,fF,fF,fF,fF,fF,fF,fF] rfl rfl (one_of HT_.out (by kernel_rfl)) (by decide) (fun K hK=>?_)
   refine goes_ Try.func43 (by kernel_rfl) rfl #[.string a0_1,.int .u8 42] (by rfl) rfl rfl (by (try simp only [sM,sC,sN]);first|done|rfl|(simp only [List.length_drop,List.length_take];rfl)) ?_
   with_reducible refine (strings_IndexByte.calls a0_1 42 t443 _ A3.out).mono ?_
   rintro e w16 ⟨rfl,hb⟩
   refine ⟨_,rfl,?_⟩
   replace BK442:=aM (blk_below (g:=gb442) (o:=.cells #[.string a0_0,.string a0_1] 25 (0,0)) BK442.out hb)
   replace HB:=aM (below_step HB.out hb)
   (try clear hb)
   refine hK.out _ _ ⟨(blk_cell BK442.out 0).trans rfl,(blk_cell BK442.out 1).trans rfl⟩ (fun hHeld=>?_)
   clear hK K
   refine norm_ (a':=?_) ?_ ?_
   rotate_left
   ·show Act.put _ (some 9) _ = _
    simp only [Act.put,sI,sZ,sS,i64_w,i32_w]
    rfl
   refine pure_ (i:=11) (N:=some 14) (v:=?_) (a':=?_) #[tT,tT,tT,tT,tT,tT,tT,tT,tT,tT,tT,tT,fF,fF,fF,fF,fF,fF,fF,fF,fF,fF,fF,fF,fF,fF] rfl rfl (any_of HT_.out (by kernel_rfl)) (fun _ _ _ h=>h) (Or.inl ⟨by rfl,?_⟩) ?_ ?_
   rotate_left
   ·intro w'
    go_simp
    with_reducible rfl
   rotate_left
   ·simp only [Act.put,sI,sZ,sS,i64_w,i32_w]
    rfl
   refine pure_ (i:=12) (N:=some 15) (v:=?_) (a':=?_) #[tT,tT,tT,tT,tT,tT,tT,tT,tT,tT,tT,tT,tT,fF,fF,fF,fF,fF,fF,fF,fF,fF,fF,fF,fF,fF] rfl rfl (any_of HT_.out (by kernel_rfl)) (fun _ _ _ h=>h) (Or.inl ⟨by rfl,?_⟩) ?_ ?_
   rotate_left
   ·intro w'
    go_simp
    with_reducible rfl
   rotate_left
   ·simp only [Act.put,sI,sZ,sS,i64_w,i32_w]
    rfl
   refine pure_ (i:=13) (N:=some 16) (v:=?_) (a':=?_) #[tT,tT,tT,tT,tT,tT,tT,tT,tT,tT,tT,tT,tT,tT,fF,fF,fF,fF,fF,fF,fF,fF,fF,fF,fF,fF] rfl rfl (any_of HT_.out (by kernel_rfl)) (fun _ _ _ h=>h) (Or.inl ⟨by rfl,?_⟩) ?_ ?_
   rotate_left
   ·intro w'
    go_simp
    with_reducible rfl
   rotate_left
   ·simp only [Act.put,sI,sZ,sS,i64_w,i32_w]
    rfl
   refine pure_ (i:=14) (N:=some 17) (v:=undef) (a':=?_) #[tT,tT,tT,tT,tT,tT,tT,tT,tT,tT,tT,tT,tT,tT,tT,fF,fF,fF,fF,fF,fF,fF,fF,fF,fF,fF] rfl rfl (any_of HT_.out (by kernel_rfl)) (fun _ _ _ h=>h) (Or.inr ⟨by rfl,rfl⟩) ?_ ?_
   rotate_left
   ·simp only [Act.put,sI,sZ,sS,i64_w,i32_w]
    rfl
   refine pure_ (i:=15) (N:=some 18) (v:=undef) (a':=?_) #[tT,tT,tT,tT,tT,tT,tT,tT,tT,tT,tT,tT,tT,tT,tT,tT,fF,fF,fF,fF,fF,fF,fF,fF,fF,fF] rfl rfl (any_of HT_.out (by kernel_rfl)) (fun _ _ _ h=>h) (Or.inr ⟨by rfl,rfl⟩) ?_ ?_
   rotate_left
   ·simp only [Act.put,sI,sZ,sS,i64_w,i32_w]
    rfl
   refine pure_ (i:=16) (N:=some 19) (v:=undef) (a':=?_) #[tT,tT,tT,tT,tT,tT,tT,tT,tT,tT,tT,tT,tT,tT,tT,tT,tT,fF,fF,fF,fF,fF,fF,fF,fF,fF] rfl rfl (any_of HT_.out (by kernel_rfl)) (fun _ _ _ h=>h) (Or.inr ⟨by rfl,rfl⟩) ?_ ?_
   rotate_left
   ·simp only [Act.put,sI,sZ,sS,i64_w,i32_w]
    rfl
   refine pure_ (i:=17) (N:=some 20) (v:=undef) (a':=?_) #[tT,tT,tT,tT,tT,tT,tT,tT,tT,tT,tT,tT,tT,tT,tT,tT,tT,tT,fF,fF,fF,fF,fF,fF,fF,fF] rfl rfl (any_of HT_.out (by kernel_rfl)) (fun _ _ _ h=>h) (Or.inr ⟨by rfl,rfl⟩) ?_ ?_
   rotate_left
   ·simp only [Act.put,sI,sZ,sS,i64_w,i32_w]
    rfl
   refine pure_ (i:=18) (N:=some 21) (v:=undef) (a':=?_) #[tT,tT,tT,tT,tT,tT,tT,tT,tT,tT,tT,tT,tT,tT,tT,tT,tT,tT,tT,fF,fF,fF,fF,fF,fF,fF] rfl rfl (any_of HT_.out (by kernel_rfl)) (fun _ _ _ h=>h) (Or.inr ⟨by rfl,rfl⟩) ?_ ?_
   rotate_left
   ·simp only [Act.put,sI,sZ,sS,i64_w,i32_w]
    rfl
   refine pure_ (i:=19) (N:=some 22) (v:=undef) (a':=?_) #[tT,tT,tT,tT,tT,tT,tT,tT,tT,tT,tT,tT,tT,tT,tT,tT,tT,tT,tT,tT,fF,fF,fF,fF,fF,fF] rfl rfl (any_of HT_.out (by kernel_rfl)) (fun _ _ _ h=>h) (Or.inr ⟨by rfl,rfl⟩) ?_ ?_
   rotate_left
   ·simp only [Act.put,sI,sZ,sS,i64_w,i32_w]
    rfl
   refine pure_ (i:=20) (N:=some 23) (v:=undef) (a':=?_) #[tT,tT,tT,tT,tT,tT,tT,tT,tT,tT,tT,tT,tT,tT,tT,tT,tT,tT,tT,tT,tT,fF,fF,fF,fF,fF] rfl rfl (any_of HT_.out (by kernel_rfl)) (fun _ _ _ h=>h) (Or.inr ⟨by rfl,rfl⟩) ?_ ?_
   rotate_left
   ·simp only [Act.put,sI,sZ,sS,i64_w,i32_w]
    rfl
   refine pure_ (i:=21) (N:=some 24) (v:=undef) (a':=?_) #[tT,tT,tT,tT,tT,tT,tT,tT,tT,tT,tT,tT,tT,tT,tT,tT,tT,tT,tT,tT,tT,tT,fF,fF,fF,fF] rfl rfl (any_of HT_.out (by kernel_rfl)) (fun _ _ _ h=>h) (Or.inr ⟨by rfl,rfl⟩) ?_ ?_
   rotate_left
   ·simp only [Act.put,sI,sZ,sS,i64_w,i32_w]
    rfl
   refine pure_ (i:=22) (N:=some 25) (v:=undef) (a':=?_) #[tT,tT,tT,tT,tT,tT,tT,tT,tT,tT,tT,tT,tT,tT,tT,tT,tT,tT,tT,tT,tT,tT,tT,fF,fF,fF] rfl rfl (any_of HT_.out (by kernel_rfl)) (fun _ _ _ h=>h) (Or.inr ⟨by rfl,rfl⟩) ?_ ?_
   rotate_left
   ·simp only [Act.put,sI,sZ,sS,i64_w,i32_w]
    rfl
   refine pure_ (i:=23) (N:=some 26) (v:=undef) (a':=?_) #[tT,tT,tT,tT,tT,tT,tT,tT,tT,tT,tT,tT,tT,tT,tT,tT,tT,tT,tT,tT,tT,tT,tT,tT,fF,fF] rfl rfl (any_of HT_.out (by kernel_rfl)) (fun _ _ _ h=>h) (Or.inr ⟨by rfl,rfl⟩) ?_ ?_
   rotate_left
   ·simp only [Act.put,sI,sZ,sS,i64_w,i32_w]
    rfl
   refine pure_ (i:=24) (N:=some 27) (v:=?_) (a':=?_) #[tT,tT,tT,tT,tT,tT,tT,tT,tT,tT,tT,tT,tT,tT,tT,tT,tT,tT,tT,tT,tT,tT,tT,tT,tT,fF] rfl rfl (any_of HT_.out (by kernel_rfl)) (fun _ _ _ h=>h) (Or.inl ⟨by rfl,?_⟩) ?_ ?_
   rotate_left
   ·intro w'
    go_simp
    with_reducible rfl
   rotate_left
   ·simp only [Act.put,sI,sZ,sS,i64_w,i32_w]
    rfl
   refine pure_ (i:=25) (N:=some 2) (v:=?_) (a':=?_) #[tT,tT,tT,tT,tT,tT,tT,tT,tT,tT,tT,tT,tT,tT,tT,tT,tT,tT,tT,tT,tT,tT,tT,tT,tT,tT] rfl rfl (any_of HT_.out (by kernel_rfl)) (fun _ _ _ h=>h) (Or.inl ⟨by rfl,?_⟩) ?_ ?_
   rotate_left
   ·intro w'
    go_simp
    with_reducible rfl
   rotate_left
   ·simp only [Act.put,sI,sZ,sS,i64_w,i32_w]
    rfl
   refine done_ (done_of HT_.out (by kernel_rfl)) ?_
   try go_wp2
   go_ret
   exact ⟨by first|rfl|(simp [errW_none,errW_some] <;> rfl)|(simp [*,errW_none,errW_some] <;> rfl),HB.out⟩
 ·rw [if_neg c2] at H
  have c2b0:(a0_0.toList == ([]:List UInt8)) = false:=beq_eq_false_iff_ne.mpr c2
  have c2b1:(a0_0.toList != ([]:List UInt8)) = true:=bne_iff_ne.mpr c2
  obtain rfl:=Option.some.inj H
  go_enter Try.func31,Try.ntmps31
  try go_wp2_with (first|((with_reducible refine gate_dst (N:=1) rfl ?_);(try (refine gate_guard (by rfl) ?_;dsimp only));refine box_event ?hg (N:=1) ?hd (cs:=#[.string a0_0,.string a0_1]) (t:=25) ?hr ?_;(case hd=>rfl);(case hg=>rfl);(case hr=>first|(go_simp;done)|(go_simp;rfl));intro gb442 hg w17 hbox hb;have n0_:=aM (below_step HB.out hb);have n1_:=aM (hbox);have n2_:=aM ((by rw [hg];exact (below_size HB.out):w.heap.size ≤ gb442));have n3_:=aM ((by rw [hg];exact (below_size HB.out):w.heap.size ≤ gb442));clear HB;have HB:=n0_;have BK442:=n1_;have GW442:=n2_;have GE442:=n3_;clear n0_ n1_ n2_ n3_;clear hb hbox hg))
  replace BK442:=aM (yD BK442.out)
  replace HB:=aM (zD HB.out)
  refine start_ (n:=26) (S:=fun w'=>w'.cell? ⟨gb442,0,none⟩ = some (.string a0_0) ∧ w'.cell? ⟨gb442,1,none⟩ = some (.string a0_1)) (ds:=[]) #[fF,fF,fF,fF,fF,fF,fF,fF,fF,fF,fF,fF,fF,fF,fF,fF,fF,fF,fF,fF,fF,fF,fF,fF,fF,fF] (by kernel_rfl) rfl rfl ⟨(blk_cell BK442.out 0).trans rfl,(blk_cell BK442.out 1).trans rfl⟩ (fun hHeld=>?_);refine with_tabW impl_Sequence_isStar.tab1 impl_Sequence_isStar.bits1 (fun HT_ HW_=>?_)
  generalize w17.drew = w18 at BK442 HB hHeld ⊢
  refine pure_ (i:=0) (N:=some 3) (v:=?_) (a':=?_) #[tT,fF,fF,fF,fF,fF,fF,fF,fF,fF,fF,fF,fF,fF,fF,fF,fF,fF,fF,fF,fF,fF,fF,fF,fF,fF] rfl rfl (any_of HT_.out (by kernel_rfl)) (fun _ _ _ h=>h) (Or.inl ⟨by rfl,?_⟩) ?_ ?_
  rotate_left
  ·intro w'
   go_simp
   with_reducible rfl
  rotate_left
  ·simp only [Act.put,sI,sZ,sS,i64_w,i32_w]
   rfl
  refine take_ (i:=1) (N:=some 4) (v:=?_) (a':=?_) #[tT,tT,fF,fF,fF,fF,fF,fF,fF,fF,fF,fF,fF,fF,fF,fF,fF,fF,fF,fF,fF,fF,fF,fF,fF,fF] rfl rfl (take_ofW HT_.out HW_.out (by kernel_rfl)) (fun _ _ _ h=>h) (Or.inl ⟨by rfl,?_⟩) hHeld ?_ ?_
  rotate_left
  ·rintro w' ⟨s0,s1⟩
   go_simp
   with_reducible rfl
  rotate_left
  ·simp only [Act.put,sI,sZ,sS,i64_w,i32_w]
   rfl
  refine pure_ (i:=2) (N:=some 5) (v:=?_) (a':=?_) #[tT,tT,tT,fF,fF,fF,fF,fF,fF,fF,fF,fF,fF,fF,fF,fF,fF,fF,fF,fF,fF,fF,fF,fF,fF,fF] rfl rfl (any_of HT_.out (by kernel_rfl)) (fun _ _ _ h=>h) (Or.inl ⟨by rfl,?_⟩) ?_ ?_
  rotate_left
  ·intro w'
   go_simp
   with_reducible rfl
  rotate_left
  ·simp only [Act.put,sI,sZ,sS,i64_w,i32_w]
   rfl
  refine pure_ (i:=3) (N:=some 6) (v:=?_) (a':=?_) #[tT,tT,tT,tT,fF,fF,fF,fF,fF,fF,fF,fF,fF,fF,fF,fF,fF,fF,fF,fF,fF,fF,fF,fF,fF,fF] rfl rfl (any_of HT_.out (by kernel_rfl)) (fun _ _ _ h=>h) (Or.inl ⟨by rfl,?_⟩) ?_ ?_
  rotate_left
  ·intro w'
   go_simp
   with_reducible rfl
  rotate_left
  ·simp only [Act.put,sI,sZ,sS,i64_w,i32_w]
   rfl
  refine pure_ (i:=4) (N:=some 7) (v:=undef) (a':=?_) #[tT,tT,tT,tT,tT,fF,fF,fF,fF,fF,fF,fF,fF,fF,fF,fF,fF,fF,fF,fF,fF,fF,fF,fF,fF,fF] rfl rfl (any_of HT_.out (by kernel_rfl)) (fun _ _ _ h=>h) (Or.inr ⟨by rfl,rfl⟩) ?_ ?_
  rotate_left
  ·simp only [Act.put,sI,sZ,sS,i64_w,i32_w]
   rfl
  refine pure_ (i:=5) (N:=some 8) (v:=undef) (a':=?_) #[tT,tT,tT,tT,tT,tT,fF,fF,fF,fF,fF,fF,fF,fF,fF,fF,fF,fF,fF,fF,fF,fF,fF,fF,fF,fF] rfl rfl (any_of HT_.out (by kernel_rfl)) (fun _ _ _ h=>h) (Or.inr ⟨by rfl,rfl⟩) ?_ ?_
  rotate_left
  ·simp only [Act.put,sI,sZ,sS,i64_w,i32_w]
   rfl
  refine pure_ (i:=6) (N:=some 9) (v:=undef) (a':=?_) #[tT,tT,tT,tT,tT,tT,tT,fF,fF,fF,fF,fF,fF,fF,fF,fF,fF,fF,fF,fF,fF,fF,fF,fF,fF,fF] rfl rfl (any_of HT_.out (by kernel_rfl)) (fun _ _ _ h=>h) (Or.inr ⟨by rfl,rfl⟩) ?_ ?_
  rotate_left
  ·simp only [Act.put,sI,sZ,sS,i64_w,i32_w]
   rfl
  refine pure_ (i:=7) (N:=some 10) (v:=undef) (a':=?_) #[tT,tT,tT,tT,tT,tT,tT,tT,fF,fF,fF,fF,fF,fF,fF,fF,fF,fF,fF,fF,fF,fF,fF,fF,fF,fF] rfl rfl (any_of HT_.out (by kernel_rfl)) (fun _ _ _ h=>h) (Or.inr ⟨by rfl,rfl⟩) ?_ ?_
  rotate_left
  ·simp only [Act.put,sI,sZ,sS,i64_w,i32_w]
   rfl
  refine pure_ (i:=8) (N:=some 11) (v:=undef) (a':=?_) #[tT,tT,tT,tT,tT,tT,tT,tT,tT,fF,fF,fF,fF,fF,fF,fF,fF,fF,fF,fF,fF,fF,fF,fF,fF,fF] rfl rfl (any_of HT_.out (by kernel_rfl)) (fun _ _ _ h=>h) (Or.inr ⟨by rfl,rfl⟩) ?_ ?_
  rotate_left
  ·simp only [Act.put,sI,sZ,sS,i64_w,i32_w]
   rfl
  refine pure_ (i:=9) (N:=some 12) (v:=undef) (a':=?_) #[tT,tT,tT,tT,tT,tT,tT,tT,tT,tT,fF,fF,fF,fF,fF,fF,fF,fF,fF,fF,fF,fF,fF,fF,fF,fF] rfl rfl (any_of HT_.out (by kernel_rfl)) (fun _ _ _ h=>h) (Or.inr ⟨by rfl,rfl⟩) ?_ ?_
  rotate_left
  ·simp only [Act.put,sI,sZ,sS,i64_w,i32_w]
   rfl
  refine pure_ (i:=10) (N:=some 13) (v:=undef) (a':=?_) #[tT,tT,tT,tT,tT,tT,tT,tT,tT,tT,tT,fF,fF,fF,fF,fF,fF,fF,fF,fF,fF,fF,fF,fF,fF,fF] rfl rfl (any_of HT_.out (by kernel_rfl)) (fun _ _ _ h=>h) (Or.inr ⟨by rfl,rfl⟩) ?_ ?_
  rotate_left
  ·simp only [Act.put,sI,sZ,sS,i64_w,i32_w]
   rfl
  refine pure_ (i:=11) (N:=some 14) (v:=undef) (a':=?_) #[tT,tT,tT,tT,tT,tT,tT,tT,tT,tT,tT,tT,fF,fF,fF,fF,fF,fF,fF,fF,fF,fF,fF,fF,fF,fF] rfl rfl (any_of HT_.out (by kernel_rfl)) (fun _ _ _ h=>h) (Or.inr ⟨by rfl,rfl⟩) ?_ ?_
  rotate_left
  ·simp only [Act.put,sI,sZ,sS,i64_w,i32_w]
   rfl
  refine pure_ (i:=12) (N:=some 15) (v:=?_) (a':=?_) #[tT,tT,tT,tT,tT,tT,tT,tT,tT,tT,tT,tT,tT,fF,fF,fF,fF,fF,fF,fF,fF,fF,fF,fF,fF,fF] rfl rfl (any_of HT_.out (by kernel_rfl)) (fun _ _ _ h=>h) (Or.inl ⟨by rfl,?_⟩) ?_ ?_
  rotate_left
  ·intro w'
   go_simp
   with_reducible rfl
  rotate_left
  ·simp only [Act.put,sI,sZ,sS,i64_w,i32_w]
   rfl
  refine pure_ (i:=13) (N:=some 16) (v:=?_) (a':=?_) #[tT,tT,tT,tT,tT,tT,tT,tT,tT,tT,tT,tT,tT,tT,fF,fF,fF,fF,fF,fF,fF,fF,fF,fF,fF,fF] rfl rfl (any_of HT_.out (by kernel_rfl)) (fun _ _ _ h=>h) (Or.inl ⟨by rfl,?_⟩) ?_ ?_
  rotate_left
  ·intro w'
   go_simp
   with_reducible rfl
  rotate_left
  ·simp only [Act.put,sI,sZ,sS,i64_w,i32_w]
   rfl
  refine pure_ (i:=14) (N:=some 17) (v:=undef) (a':=?_) #[tT,tT,tT,tT,tT,tT,tT,tT,tT,tT,tT,tT,tT,tT,tT,fF,fF,fF,fF,fF,fF,fF,fF,fF,fF,fF] rfl rfl (any_of HT_.out (by kernel_rfl)) (fun _ _ _ h=>h) (Or.inr ⟨by rfl,rfl⟩) ?_ ?_
  rotate_left
  ·simp only [Act.put,sI,sZ,sS,i64_w,i32_w]
   rfl
  refine pure_ (i:=15) (N:=some 18) (v:=undef) (a':=?_) #[tT,tT,tT,tT,tT,tT,tT,tT,tT,tT,tT,tT,tT,tT,tT,tT,fF,fF,fF,fF,fF,fF,fF,fF,fF,fF] rfl rfl (any_of HT_.out (by kernel_rfl)) (fun _ _ _ h=>h) (Or.inr ⟨by rfl,rfl⟩) ?_ ?_
  rotate_left
  ·simp only [Act.put,sI,sZ,sS,i64_w,i32_w]
   rfl
  refine pure_ (i:=16) (N:=some 19) (v:=undef) (a':=?_) #[tT,tT,tT,tT,tT,tT,tT,tT,tT,tT,tT,tT,tT,tT,tT,tT,tT,fF,fF,fF,fF,fF,fF,fF,fF,fF] rfl rfl (any_of HT_.out (by kernel_rfl)) (fun _ _ _ h=>h) (Or.inr ⟨by rfl,rfl⟩) ?_ ?_
  rotate_left
  ·simp only [Act.put,sI,sZ,sS,i64_w,i32_w]
   rfl
  refine pure_ (i:=17) (N:=some 20) (v:=undef) (a':=?_) #[tT,tT,tT,tT,tT,tT,tT,tT,tT,tT,tT,tT,tT,tT,tT,tT,tT,tT,fF,fF,fF,fF,fF,fF,fF,fF] rfl rfl (any_of HT_.out (by kernel_rfl)) (fun _ _ _ h=>h) (Or.inr ⟨by rfl,rfl⟩) ?_ ?_
  rotate_left
  ·simp only [Act.put,sI,sZ,sS,i64_w,i32_w]
   rfl
  refine pure_ (i:=18) (N:=some 21) (v:=undef) (a':=?_) #[tT,tT,tT,tT,tT,tT,tT,tT,tT,tT,tT,tT,tT,tT,tT,tT,tT,tT,tT,fF,fF,fF,fF,fF,fF,fF] rfl rfl (any_of HT_.out (by kernel_rfl)) (fun _ _ _ h=>h) (Or.inr ⟨by rfl,rfl⟩) ?_ ?_
  rotate_left
  ·simp only [Act.put,sI,sZ,sS,i64_w,i32_w]
   rfl
  refine pure_ (i:=19) (N:=some 22) (v:=undef) (a':=?_) #[tT,tT,tT,tT,tT,tT,tT,tT,tT,tT,tT,tT,tT,tT,tT,tT,tT,tT,tT,tT,fF,fF,fF,fF,fF,fF] rfl rfl (any_of HT_.out (by kernel_rfl)) (fun _ _ _ h=>h) (Or.inr ⟨by rfl,rfl⟩) ?_ ?_
  rotate_left
  ·simp only [Act.put,sI,sZ,sS,i64_w,i32_w]
   rfl
  refine pure_ (i:=20) (N:=some 23) (v:=undef) (a':=?_) #[tT,tT,tT,tT,tT,tT,tT,tT,tT,tT,tT,tT,tT,tT,tT,tT,tT,tT,tT,tT,tT,fF,fF,fF,fF,fF] rfl rfl (any_of HT_.out (by kernel_rfl)) (fun _ _ _ h=>h) (Or.inr ⟨by rfl,rfl⟩) ?_ ?_
  rotate_left
  ·simp only [Act.put,sI,sZ,sS,i64_w,i32_w]
   rfl
  refine pure_ (i:=21) (N:=some 24) (v:=undef) (a':=?_) #[tT,tT,tT,tT,tT,tT,tT,tT,tT,tT,tT,tT,tT,tT,tT,tT,tT,tT,tT,tT,tT,tT,fF,fF,fF,fF] rfl rfl (any_of HT_.out (by kernel_rfl)) (fun _ _ _ h=>h) (Or.inr ⟨by rfl,rfl⟩) ?_ ?_
  rotate_left
  ·simp only [Act.put,sI,sZ,sS,i64_w,i32_w]
   rfl
  refine pure_ (i:=22) (N:=some 25) (v:=undef) (a':=?_) #[tT,tT,tT,tT,tT,tT,tT,tT,tT,tT,tT,tT,tT,tT,tT,tT,tT,tT,tT,tT,tT,tT,tT,fF,fF,fF] rfl rfl (any_of HT_.out (by kernel_rfl)) (fun _ _ _ h=>h) (Or.inr ⟨by rfl,rfl⟩) ?_ ?_
  rotate_left
  ·simp only [Act.put,sI,sZ,sS,i64_w,i32_w]
   rfl
  refine pure_ (i:=23) (N:=some 26) (v:=undef) (a':=?_) #[tT,tT,tT,tT,tT,tT,tT,tT,tT,tT,tT,tT,tT,tT,tT,tT,tT,tT,tT,tT,tT,tT,tT,tT,fF,fF] rfl rfl (any_of HT_.out (by kernel_rfl)) (fun _ _ _ h=>h) (Or.inr ⟨by rfl,rfl⟩) ?_ ?_
  rotate_left
  ·simp only [Act.put,sI,sZ,sS,i64_w,i32_w]
   rfl
  refine pure_ (i:=24) (N:=some 27) (v:=?_) (a':=?_) #[tT,tT,tT,tT,tT,tT,tT,tT,tT,tT,tT,tT,tT,tT,tT,tT,tT,tT,tT,tT,tT,tT,tT,tT,tT,fF] rfl rfl (any_of HT_.out (by kernel_rfl)) (fun _ _ _ h=>h) (Or.inl ⟨by rfl,?_⟩) ?_ ?_
  rotate_left
  ·intro w'
   go_simp
   with_reducible rfl
  rotate_left
  ·simp only [Act.put,sI,sZ,sS,i64_w,i32_w]
   rfl
  refine pure_ (i:=25) (N:=some 2) (v:=?_) (a':=?_) #[tT,tT,tT,tT,tT,tT,tT,tT,tT,tT,tT,tT,tT,tT,tT,tT,tT,tT,tT,tT,tT,tT,tT,tT,tT,tT] rfl rfl (any_of HT_.out (by kernel_rfl)) (fun _ _ _ h=>h) (Or.inl ⟨by rfl,?_⟩) ?_ ?_
  rotate_left
  ·intro w'
   go_simp
   with_reducible rfl
  rotate_left
  ·simp only [Act.put,sI,sZ,sS,i64_w,i32_w]
   rfl
  refine done_ (done_of HT_.out (by kernel_rfl)) ?_
  try go_wp2
  go_ret
  exact ⟨by first|rfl|(simp [errW_none,errW_some] <;> rfl)|(simp [*,errW_none,errW_some] <;> rfl),HB.out⟩
def impl_IsStarPeriodic.f (k:Nat) (a0_0:ByteArray) (a0_1:ByteArray):Option (Bool × Int):=(impl_sequencesCode.f k true (([(⟨a0_0,a0_1⟩:S25)]:List (S25)))).bind fun t448=>(if t448 = 0 then ((impl_Sequence_isStar.f a0_0 a0_1).bind fun t449=>(some (t449,0))) else (some (false,t448)))
theorem impl_IsStarPeriodic.mono:∀ a0 a1 k,LeO (impl_IsStarPeriodic.f k a0 a1) (impl_IsStarPeriodic.f (k + 1) a0 a1):=by
 intro a0 a1 k
 unfold impl_IsStarPeriodic.f
 repeat' first
   | (with_reducible exact impl_sequencesCode.mono _ _ _)
   | (with_reducible exact LeO.refl _)
   | (with_reducible exact LeO.none _)
   | (with_reducible refine LeO.ite ?_ ?_)
   | (with_reducible refine LeO.bind ?_ (fun _=>?_))
   | exact impl_sequencesCode.mono _ _ _
   | exact LeO.none _
   | refine LeO.ite ?_ ?_
   | refine LeO.bind ?_ (fun _=>?_)
set_option maxHeartbeats 8000000 in
set_option maxRecDepth 100000 in
theorem impl_IsStarPeriodic.calls (k:Nat) (a0_0:ByteArray) (a0_1:ByteArray) (r1:Bool) (r2:Int) (w:World) (h:impl_IsStarPeriodic.f k a0_0 a0_1 = some (r1,r2)) :
  Calls Try.prog 15 #[.agg #[.string a0_0,.string a0_1]] w fun e w'=>e = .returned (.tuple #[.bool r1,.int .i64 r2]) ∧ Below w.heap.size w w':=by
 have hu25:=Try.underlying25
 have HB:=aM (Below.refl w.heap.size w)
 have H:((impl_sequencesCode.f k true (([(⟨a0_0,a0_1⟩:S25)]:List (S25)))).bind fun t448=>(if t448 = 0 then ((impl_Sequence_isStar.f a0_0 a0_1).bind fun t449=>(some (t449,0))) else (some (false,t448)))) = some (r1,r2):=h
 clear h
 obtain ⟨y445,hy445⟩:∃ y_:List (S25),y_ = (([(⟨a0_0,a0_1⟩:S25)]:List (S25))):=⟨_,rfl⟩
 replace H:((impl_sequencesCode.f k true y445).bind fun t448=>(if t448 = 0 then ((impl_Sequence_isStar.f a0_0 a0_1).bind fun t449=>(some (t449,0))) else (some (false,t448)))) = some (r1,r2):=by first|(rw [hy445];with_reducible exact H)|(have H2_:=(Option.bind_some _ _).symm.trans H;rw [hy445];with_reducible exact H2_)|(have H2_:=(Option.bind_some _ _).symm.trans H;with_reducible exact H2_)|with_reducible exact H|(rw [hy445];exact H)|exact H
 have Ny445:=aM hy445
 clear hy445
 replace H:=Option.bind_eq_some_iff.mp H
 obtain ⟨t448,A20,H⟩:=H
 replace H:(if t448 = 0 then ((impl_Sequence_isStar.f a0_0 a0_1).bind fun t449=>(some (t449,0))) else (some (false,t448))) = some (r1,r2):=H
 have A2:=aM A20
 clear A20
 by_cases c3:t448 = 0
 ·rw [if_pos c3] at H
  have c3b0:(t448 == 0) = true:=beq_iff_eq.mpr c3
  have c3b1:(t448 != 0) = false:=bne_eq_false_iff_eq.mpr c3
  clear c3
  replace H:=Option.bind_eq_some_iff.mp H
  obtain ⟨t449,A40,H⟩:=H
  replace H:(some (t449,0)) = some (r1,r2):=H
  have A4:=aM A40
  clear A40
  simp only [Option.some.injEq,Prod.mk.injEq] at H
  obtain ⟨rfl,rfl⟩:=H
  go_enter Try.func15,Try.ntmps15
  go_wp2_with (first|((with_reducible refine gate_dst (N:=1) rfl ?_);refine box_event ?hg (N:=1) ?hd (cs:=#[.string a0_0,.string a0_1]) (t:=25) ?hr ?_;(case hd=>rfl);(case hg=>rfl);(case hr=>first|(go_simp;done)|(go_simp;rfl));intro gb444 hg w5 hbox hb;have n0_:=aM (below_step (by repeat (first|(with_reducible first|exact HB.out|apply zA|apply zN|apply zD)|exact HB.out)) hb);have n1_:=aM (hbox);have n2_:=aM ((by rw [hg];exact (below_size (by repeat (first|(with_reducible first|exact HB.out|apply zA|apply zN|apply zD)|exact HB.out))):w.heap.size ≤ gb444));have n3_:=aM ((by rw [hg];exact (below_size (by repeat (first|(with_reducible first|exact HB.out|apply zA|apply zN|apply zD)|exact HB.out))):w.heap.size ≤ gb444));clear HB;have HB:=n0_;have BK444:=n1_;have GW444:=n2_;have GE444:=n3_;clear n0_ n1_ n2_ n3_;clear hb hbox hg;have hcz6_0:w5.cell? ⟨gb444,0,none⟩ = some (.string a0_0):=(blk_cell BK444.out 0).trans rfl;have hcz6_1:w5.cell? ⟨gb444,1,none⟩ = some (.string a0_1):=(blk_cell BK444.out 1).trans rfl;have hfz6_0:=blk_frozen BK444.out 0;have hfz6_1:=blk_frozen BK444.out 1)|((with_reducible refine gate_dst (N:=6) rfl ?_);refine Kd.R_lit k25 _ 25 ?hg (N:=6) ?hd (xs:=([(⟨a0_0,a0_1⟩:S25)]:List (S25))) (inner:=[.string a0_0,.string a0_1]) (ok:=fun _=>True) (okp:=fun _=>True) ?hr ?hp (fun _ hk=>hk) trivial (Below.refl _ _) (Nat.le_refl _) (by simp) ?_;(case hd=>rfl);(case hg=>rfl);(case hr=>first|(go_simp;done)|(go_simp;rfl));(case hp=>exact (Reps.c2 (show Kd.M k25 _ _ _ (⟨a0_0,a0_1⟩:S25) [.string a0_0,.string a0_1] from (k25_mkM _ _ _ (⟨a0_0,a0_1⟩:S25) )) (Reps.none _ _)));intro v446 w7 ho8 hb hg_ hnew_;clear hg_ hnew_;(first|rw [← Ny445.out] at ho8|(simp only [Int.reduceToNat] at ho8;rw [← Ny445.out] at ho8));have HO447:=aM (Kd.R_lower (Kd.R_newB ho8 (g:=gb444) (o:=.cells #[.string a0_0,.string a0_1] 25 (0,0)) (by (with_reducible repeat (first|apply yN|apply yD|apply yA));exact BK444.out)) (below_size (by repeat (first|(with_reducible first|exact HB.out|apply zA|apply zN|apply zD|refine zS ?_ GE444.out)|exact HB.out))));replace BK444:=aM (blk_below (g:=gb444) (o:=.cells #[.string a0_0,.string a0_1] 25 (0,0)) (by (with_reducible repeat (first|apply yN|apply yD|apply yA));exact BK444.out) hb);replace HB:=aM (below_step (by repeat (first|(with_reducible first|exact HB.out|apply zA|apply zN|apply zD|refine zS ?_ GE444.out)|exact HB.out)) hb);clear hb ho8;obtain ⟨Ao9,co9,eo9⟩:=Kd.R_slice HO447.out;subst eo9)|((with_reducible refine gate_callee (f:=19) rfl ?_);refine goesL_ (some 7) rfl rfl Try.func19 (by kernel_rfl) rfl #[.bool true,.slice Ao9 y445.length co9] rfl (by (try simp only [sM,sC,sN]);first|done|rfl|(simp only [List.length_drop,List.length_take];rfl)) ?_;(with_reducible refine (impl_sequencesCode.calls k true _ _ y445 t448 _ ?side1 ?side2 A2.out).mono ?_);(case side1=>repeat (first|exact (Kd.R_reads' HO447.out).2.2|(with_reducible refine cA ?_ _)|(with_reducible refine cN ?_ _)|(with_reducible refine cD ?_)));(case side2=>exact (Kd.R_reads' HO447.out).2.1);rintro e w10 ⟨rfl,hb⟩;refine ⟨_,rfl,?_⟩;replace HO447:=aM (Kd.R_below (by (with_reducible repeat (first|apply rA|apply rN|apply rD));exact HO447.out) hb);replace BK444:=aM (blk_below (g:=gb444) (o:=.cells #[.string a0_0,.string a0_1] 25 (0,0)) (by (with_reducible repeat (first|apply yN|apply yD|apply yA));exact BK444.out) hb);replace HB:=aM (below_step (by repeat (first|(with_reducible first|exact HB.out|apply zA|apply zN|apply zD|refine zS ?_ GE444.out)|exact HB.out)) hb);(try clear hb);(try clear hb2);(try clear hk);(try clear hi);have hcz11_0:w10.cell? ⟨gb444,0,none⟩ = some (.string a0_0):=(blk_cell BK444.out 0).trans rfl;have hcz11_1:w10.cell? ⟨gb444,1,none⟩ = some (.string a0_1):=(blk_cell BK444.out 1).trans rfl;have hfz11_0:=blk_frozen BK444.out 0;have hfz11_1:=blk_frozen BK444.out 1)|((with_reducible refine gate_callee (f:=31) rfl ?_);refine goesL_ (some 12) rfl rfl Try.func31 (by kernel_rfl) rfl #[.agg #[.string a0_0,.string a0_1]] rfl (by (try simp only [sM,sC,sN]);first|done|rfl|(simp only [List.length_drop,List.length_take];rfl)) ?_;(with_reducible refine (impl_Sequence_isStar.calls a0_0 a0_1 t449 _ A4.out).mono ?_);rintro e w12 ⟨rfl,hb⟩;refine ⟨_,rfl,?_⟩;replace HO447:=aM (Kd.R_below (by (with_reducible repeat (first|apply rA|apply rN|apply rD));exact HO447.out) hb);replace BK444:=aM (blk_below (g:=gb444) (o:=.cells #[.string a0_0,.string a0_1] 25 (0,0)) (by (with_reducible repeat (first|apply yN|apply yD|apply yA));exact BK444.out) hb);replace HB:=aM (below_step (by repeat (first|(with_reducible first|exact HB.out|apply zA|apply zN|apply zD|refine zS ?_ GE444.out)|exact HB.out)) hb);(try clear hb);(try clear hb2);(try clear hk);(try clear hi)))
  go_ret2
  exact ⟨by first|rfl|(simp [errW_none,errW_some] <;> rfl)|(simp [*,errW_none,errW_some] <;> rfl),by repeat (first|(with_reducible first|exact HB.out|apply zA|apply zN|apply zD|refine zS ?_ GE444.out)|exact HB.out)⟩
 ·rw [if_neg c3] at H
  have c3b0:(t448 == 0) = false:=beq_eq_false_iff_ne.mpr c3
  have c3b1:(t448 != 0) = true:=bne_iff_ne.mpr c3
  simp only [Option.some.injEq,Prod.mk.injEq] at H
  obtain ⟨rfl,rfl⟩:=H
  go_enter Try.func15,Try.ntmps15
  go_wp2_with (first|((with_reducible refine gate_dst (N:=1) rfl ?_);refine box_event ?hg (N:=1) ?hd (cs:=#[.string a0_0,.string a0_1]) (t:=25) ?hr ?_;(case hd=>rfl);(case hg=>rfl);(case hr=>first|(go_simp;done)|(go_simp;rfl));intro gb444 hg w13 hbox hb;have n0_:=aM (below_step (by repeat (first|(with_reducible first|exact HB.out|apply zA|apply zN|apply zD)|exact HB.out)) hb);have n1_:=aM (hbox);have n2_:=aM ((by rw [hg];exact (below_size (by repeat (first|(with_reducible first|exact HB.out|apply zA|apply zN|apply zD)|exact HB.out))):w.heap.size ≤ gb444));have n3_:=aM ((by rw [hg];exact (below_size (by repeat (first|(with_reducible first|exact HB.out|apply zA|apply zN|apply zD)|exact HB.out))):w.heap.size ≤ gb444));clear HB;have HB:=n0_;have BK444:=n1_;have GW444:=n2_;have GE444:=n3_;clear n0_ n1_ n2_ n3_;clear hb hbox hg;have hcz14_0:w13.cell? ⟨gb444,0,none⟩ = some (.string a0_0):=(blk_cell BK444.out 0).trans rfl;have hcz14_1:w13.cell? ⟨gb444,1,none⟩ = some (.string a0_1):=(blk_cell BK444.out 1).trans rfl;have hfz14_0:=blk_frozen BK444.out 0;have hfz14_1:=blk_frozen BK444.out 1)|((with_reducible refine gate_dst (N:=6) rfl ?_);refine Kd.R_lit k25 _ 25 ?hg (N:=6) ?hd (xs:=([(⟨a0_0,a0_1⟩:S25)]:List (S25))) (inner:=[.string a0_0,.string a0_1]) (ok:=fun _=>True) (okp:=fun _=>True) ?hr ?hp (fun _ hk=>hk) trivial (Below.refl _ _) (Nat.le_refl _) (by simp) ?_;(case hd=>rfl);(case hg=>rfl);(case hr=>first|(go_simp;done)|(go_simp;rfl));(case hp=>exact (Reps.c2 (show Kd.M k25 _ _ _ (⟨a0_0,a0_1⟩:S25) [.string a0_0,.string a0_1] from (k25_mkM _ _ _ (⟨a0_0,a0_1⟩:S25) )) (Reps.none _ _)));intro v446 w15 ho16 hb hg_ hnew_;clear hg_ hnew_;(first|rw [← Ny445.out] at ho16|(simp only [Int.reduceToNat] at ho16;rw [← Ny445.out] at ho16));have HO447:=aM (Kd.R_lower (Kd.R_newB ho16 (g:=gb444) (o:=.cells #[.string a0_0,.string a0_1] 25 (0,0)) (by (with_reducible repeat (first|apply yN|apply yD|apply yA));exact BK444.out)) (below_size (by repeat (first|(with_reducible first|exact HB.out|apply zA|apply zN|apply zD|refine zS ?_ GE444.out)|exact HB.out))));replace BK444:=aM (blk_below (g:=gb444) (o:=.cells #[.string a0_0,.string a0_1] 25 (0,0)) (by (with_reducible repeat (first|apply yN|apply yD|apply yA));exact BK444.out) hb);replace HB:=aM (below_step (by repeat (first|(with_reducible first|exact HB.out|apply zA|apply zN|apply zD|refine zS ?_ GE444.out)|exact HB.out)) hb);clear hb ho16;obtain ⟨Ao17,co17,eo17⟩:=Kd.R_slice HO447.out;subst eo17)|((with_reducible refine gate_callee (f:=19) rfl ?_);refine goesL_ (some 7) rfl rfl Try.func19 (by kernel_rfl) rfl #[.bool true,.slice Ao17 y445.length co17] rfl (by (try simp only [sM,sC,sN]);first|done|rfl|(simp only [List.length_drop,List.length_take];rfl)) ?_;(with_reducible refine (impl_sequencesCode.calls k true _ _ y445 t448 _ ?side1 ?side2 A2.out).mono ?_);(case side1=>repeat (first|exact (Kd.R_reads' HO447.out).2.2|(with_reducible refine cA ?_ _)|(with_reducible refine cN ?_ _)|(with_reducible refine cD ?_)));(case side2=>exact (Kd.R_reads' HO447.out).2.1);rintro e w18 ⟨rfl,hb⟩;refine ⟨_,rfl,?_⟩;replace HO447:=aM (Kd.R_below (by (with_reducible repeat (first|apply rA|apply rN|apply rD));exact HO447.out) hb);replace BK444:=aM (blk_below (g:=gb444) (o:=.cells #[.string a0_0,.string a0_1] 25 (0,0)) (by (with_reducible repeat (first|apply yN|apply yD|apply yA));exact BK444.out) hb);replace HB:=aM (below_step (by repeat (first|(with_reducible first|exact HB.out|apply zA|apply zN|apply zD|refine zS ?_ GE444.out)|exact HB.out)) hb);(try clear hb);(try clear hb2);(try clear hk);(try clear hi)))
  go_ret2
  exact ⟨by first|rfl|(simp [errW_none,errW_some] <;> rfl)|(simp [*,errW_none,errW_some] <;> rfl),by repeat (first|(with_reducible first|exact HB.out|apply zA|apply zN|apply zD|refine zS ?_ GE444.out)|exact HB.out)⟩
end Go.Proofs.Ytccinmopfchjlaa.Q
end
